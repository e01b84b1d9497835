-- by my own printer (myprint.py, over the kit's print.py)
import Derived.Test.YtepjnalkpfnmcaaQFnExactSlotOfx0
import Derived.Test.YtepjnalkpfnmcaaQFnExactSlotOfx1
import Derived.Test.YtepjnalkpfnmcaaQFnExactSlotOfx2
namespace Go.Proofs.Ytepjnalkpfnmcaa.QFnExactSlotOf
open Go.RowKit Go.Proofs.YtepjnalkpfnmcaaW.PrintWords Go.Proofs.YtepjnalkpfnmcaaW.PrintLast Go.Proofs.YtepjnalkpfnmcaaW.PrintMore
attribute [local go_sem] max2_int min2_int max_two min_two max_three min_three max_four min_four   -- for this text's walks alone
set_option linter.unusedVariables false
set_option linter.unusedSimpArgs false

attribute [local go_sem] my_geq my_leq my_gtr
/-! ### laws_markText: function 81 -/
def laws_markText.l0 : Nat → Int → ByteArray → Option (ByteArray)
 | 0, _, _ => none
 | k + 1, x0, x3 => if x0 > 0 then ((some (([(wrap64 (48 + (Int.tmod x0 10))) % 256] : List Int) : List Int)).bind fun y155 => (if (strOfNums y155).size + x3.size ≤ 9223372036854775807 then (laws_markText.l0 k (wrap64 (Int.tdiv x0 10)) ((strOfNums y155) ++ x3)) else (none))) else (if 1 + x3.size ≤ 9223372036854775807 then (some ((⟨#[109]⟩ : ByteArray) ++ x3)) else (none))
def laws_markText.f (k : Nat) (a0 : Int) : Option (ByteArray) := if a0 ≤ 0 then (some (⟨#[109, 48]⟩ : ByteArray)) else (laws_markText.l0 k a0 (⟨#[]⟩ : ByteArray))
theorem laws_markText.mono_l : ∀ k, (∀ y0 y1, LeO (laws_markText.l0 k y0 y1) (laws_markText.l0 (k + 1) y0 y1))
 | 0 => fun _ _ r h => by simp [laws_markText.l0] at h
 | k + 1 => by
  have ih0 := laws_markText.mono_l k
  ·intro y0 y1
   unfold laws_markText.l0
   repeat' first
   | (with_reducible exact ih0 _ _)
   | (with_reducible exact LeO.refl _)
   | (with_reducible exact LeO.none _)
   | (with_reducible refine LeO.ite ?_ ?_)
   | (with_reducible refine LeO.bind ?_ (fun _ => ?_))
   | exact ih0 _ _
   | exact LeO.none _
   | refine LeO.ite ?_ ?_
   | refine LeO.bind ?_ (fun _ => ?_)
theorem laws_markText.mono : ∀ a0 k, LeO (laws_markText.f k a0) (laws_markText.f (k + 1) a0) := by
 intro a0 k
 have ih0 := laws_markText.mono_l k
 unfold laws_markText.f
 repeat' first
   | (with_reducible exact ih0 _ _)
   | (with_reducible exact LeO.refl _)
   | (with_reducible exact LeO.none _)
   | (with_reducible refine LeO.ite ?_ ?_)
   | (with_reducible refine LeO.bind ?_ (fun _ => ?_))
   | exact ih0 _ _
   | exact LeO.none _
   | refine LeO.ite ?_ ?_
   | refine LeO.bind ?_ (fun _ => ?_)
set_option maxHeartbeats 8000000 in
set_option maxRecDepth 100000 in
theorem laws_markText.calls (k : Nat) (a0 : Int) (r : ByteArray) (w : World) (h : laws_markText.f k a0 = some r) :
  Calls Try.prog 81 #[.int .i64 a0] w fun e w' => e = .returned (.string r) ∧ Below w.heap.size w w' := by
 have HB := Aside0.mk (Below.refl w.heap.size w)
 have H : (if a0 ≤ 0 then (some (⟨#[109, 48]⟩ : ByteArray)) else (laws_markText.l0 k a0 (⟨#[]⟩ : ByteArray))) = some r := h
 clear h
 by_cases c2 : a0 ≤ 0
 ·rw [if_pos c2] at H
  have c2b0 : decide (a0 ≤ 0) = true := decide_eq_true c2
  clear c2
  obtain rfl := Option.some.inj H
  go_enter Try.func81, Try.ntmps81
  go_wp2
  go_ret
  exact ⟨sq_, bl_⟩
 ·rw [if_neg c2] at H
  have c2b0 : decide (a0 ≤ 0) = false := decide_eq_false c2
  clear c2
  have H' := Aside0.mk H
  clear H
  go_enter Try.func81, Try.ntmps81
  go_wp2
  go_loopg [0, 3] k (fun kq v0 v3 w' => ∃ (x0_1 : Int) (x3_1 : ByteArray), v0 = .int .i64 x0_1 ∧ v3 = .string x3_1 ∧ Aside0 (laws_markText.l0 kq x0_1 x3_1 = some r) ∧ Aside0 (kq ≤ k) ∧ Aside0 (Below w.heap.size w w'))
  case atStart => exact ⟨(a0), ((⟨#[]⟩ : ByteArray)), sp_, sp_, H', ⟨Nat.le_refl _⟩, ⟨bl_⟩⟩
  case round =>
   clear H'
   try clear c2
   try clear c2b0
   try clear p2
   obtain ⟨x0_1, x3_1, rfl, rfl, HA, HK1, HB⟩ := hrel
   cases gk with
   | zero => exact absurd HA.out (by simp [laws_markText.l0])
   | succ k1 =>
    have H := HA.out
    clear HA
    simp only [laws_markText.l0] at H
    by_cases c3 : x0_1 > 0
    ·rw [if_pos c3] at H
     have c3b0 : decide (0 < x0_1) = true := decide_eq_true c3
     clear c3
     obtain ⟨y155, hy155⟩ : ∃ y_ : List Int, y_ = (([(wrap64 (48 + (Int.tmod x0_1 10))) % 256] : List Int)) := ⟨_, rfl⟩
     replace H : (if (strOfNums y155).size + x3_1.size ≤ 9223372036854775807 then (laws_markText.l0 k1 (wrap64 (Int.tdiv x0_1 10)) ((strOfNums y155) ++ x3_1)) else (none)) = some r := by first | (rw [hy155]; with_reducible exact H) | (have H2_ := (Option.bind_some _ _).symm.trans H; rw [hy155]; with_reducible exact H2_) | (have H2_ := (Option.bind_some _ _).symm.trans H; with_reducible exact H2_) | with_reducible exact H | (rw [hy155]; exact H) | exact H
     have Ny155 := Aside0.mk hy155
     clear hy155
     by_cases c4 : (strOfNums y155).size + x3_1.size ≤ 9223372036854775807
     ·rw [if_pos c4] at H
      have c4b0 := eq_true c4
      have c4b1 : decide ((strOfNums y155).size + x3_1.size ≤ 9223372036854775807) = true := decide_eq_true c4
      try have c4b2 : (9223372036854775807 < (strOfNums y155).size + x3_1.size) = False := eq_false (Nat.not_lt.2 c4)
      have H' := Aside0.mk H
      clear H
      go_wp2_with (first | ((with_reducible refine gate_dst (N := 12) rfl ?_); refine Kd.R_lit (Kd.int .u8) _ 5 ?hg (N := 12) ?hd (xs := ([(wrap64 (48 + (Int.tmod x0_1 10))) % 256] : List Int)) (inner := [.int .u8 ((wrap64 (48 + (Int.tmod x0_1 10))) % 256)]) (ok := fun _ => True) (okp := fun _ => True) ?hr ?hp (fun _ hk => hk) trivial (Below.refl _ _) (Nat.le_refl _) (by simp) ?_; (case hd => rfl); (case hg => rfl); (case hr => first | (go_simp; done) | (go_simp; rfl)); (case hp => exact (Reps.one (show Kd.M (Kd.int .u8) _ _ _ ((wrap64 (48 + (Int.tmod x0_1 10))) % 256) [.int .u8 ((wrap64 (48 + (Int.tmod x0_1 10))) % 256)] from rfl) (Reps.none _ _))); intro v156 w5 ho6 hb hg_ hnew_; clear hg_ hnew_; (first | rw [← Ny155.out] at ho6 | (simp only [Int.reduceToNat] at ho6; rw [← Ny155.out] at ho6)); have n0_ := Aside0.mk (Kd.R_lower ho6 (below_size bl_)); have n1_ := Aside0.mk (below_step bl_ hb); clear HB; have HO157 := n0_; have HB := n1_; clear n0_ n1_; clear hb ho6; have hcv7 := own_string (P := Try.prog) Try.underlying60 Try.underlying5 Try.underlying9 (Kd.own_of_R HO157.out)))
      go_roundg k1
      case measure => have := HK1.out; omega
      case rel => exact ⟨(wrap64 (Int.tdiv x0_1 10)), ((strOfNums y155) ++ x3_1), sp_, sp_, H', ⟨by have := HK1.out; omega⟩, ⟨bl_⟩⟩
     ·rw [if_neg c4] at H
      exact absurd H (by simp)
    ·rw [if_neg c3] at H
     have c3b0 : decide (0 < x0_1) = false := decide_eq_false c3
     clear c3
     by_cases c8 : 1 + x3_1.size ≤ 9223372036854775807
     ·rw [if_pos c8] at H
      have c8b0 := eq_true c8
      have c8b1 : decide (1 + x3_1.size ≤ 9223372036854775807) = true := decide_eq_true c8
      try have c8b2 : (9223372036854775807 < 1 + x3_1.size) = False := eq_false (Nat.not_lt.2 c8)
      obtain rfl := Option.some.inj H
      go_wp2
      go_ret
      exact ⟨sq_, bl_⟩
     ·rw [if_neg c8] at H
      exact absurd H (by simp)

/-! ### laws_markSlotS: function 42 -/
theorem mk_cells {α : Type} {d : Kd α} {e : Nat} {W : World} {base : Nat} {ok oki : Nat → Prop} {g n cap : Nat} {xs : List α} {i : Int} {c : List Value} (h : Kd.H d e W base ok (.slice (some ⟨g, 0, none⟩) n cap) xs i oki c) (h0 : 0 ≤ i) (h1 : i < n) :
  (∀ j u, c[j]? = some u → W.cell? ⟨g, i.toNat * d.sz + j, none⟩ = some u) ∧ ∀ j, W.frozen? ⟨g, j, none⟩ = false := by
 obtain ⟨rows, _, hR, _, _, hcc, _⟩ := Kd.H_raw h h0 h1
 obtain ⟨inner, ho⟩ := Kd.R_own hR
 obtain ⟨cells, hc⟩ := own_typed ho g (by simp [Value.ownBlock])
 exact ⟨hcc, fun j => blk_frozen hc j⟩
theorem mk_open {α : Type} {d : Kd α} {e : Nat} {W : World} {base : Nat} {ok : Nat → Prop} {g n cap : Nat} {xs : List α} {i : Int} (h : Kd.S d e W base ok (.slice (some ⟨g, 0, none⟩) n cap) xs) (z : α) (h0 : 0 ≤ i) (h1 : i < n) :
  ∃ (oki : Nat → Prop) (c : List Value), d.M W base oki (xs.getD i.toNat z) c ∧ (∀ k, oki k → ok k ∧ k ≠ g) ∧ Kd.H d e W base ok (.slice (some ⟨g, 0, none⟩) n cap) xs i oki c := by
 obtain ⟨oki, c, _, hM, _, hoki, hH⟩ := Kd.S_lend h z i h0 h1
 exact ⟨oki, c, hM, hoki, hH⟩
def laws_markSlotS.l0 : Nat → List (S74) → Int → Int → Option (Int × (List (S74)))
 | 0, _, _, _ => none
 | k + 1, x0, x1, x5 => if x5 < (x0.length : Int) then (if 0 ≤ x5 then ((laws_markText.f k x1).bind fun t1 => ((laws_markText.f k (wrap64 (x1 + 1))).bind fun t2 => ((laws_markByteS.f k (rd_T74 x0 x5).f2 (wrap64 (wrap64 (x1 + 1) + 1))).bind fun r_ => (laws_markSlotS.l0 k (x0.set (x5 : Int).toNat (⟨t1, t2, r_.2⟩ : S74)) r_.1 (wrap64 (x5 + 1)))))) else (none)) else (some (x1, x0))
def laws_markSlotS.f (k : Nat) (l0 : List (S74)) (a1 : Int) : Option (Int × (List (S74))) := laws_markSlotS.l0 k l0 a1 0
theorem laws_markSlotS.mono_l : ∀ k, (∀ y0 y1 y2, LeO (laws_markSlotS.l0 k y0 y1 y2) (laws_markSlotS.l0 (k + 1) y0 y1 y2))
 | 0 => fun _ _ _ r h => by simp [laws_markSlotS.l0] at h
 | k + 1 => by
  have ih0 := laws_markSlotS.mono_l k
  ·intro y0 y1 y2
   unfold laws_markSlotS.l0
   repeat' first
   | (with_reducible exact ih0 _ _ _)
   | (with_reducible exact laws_markByteS.mono _ _ _)
   | (with_reducible exact laws_markText.mono _ _)
   | (with_reducible exact LeO.refl _)
   | (with_reducible exact LeO.none _)
   | (with_reducible refine LeO.ite ?_ ?_)
   | (with_reducible refine LeO.bind ?_ (fun _ => ?_))
   | exact ih0 _ _ _
   | exact laws_markByteS.mono _ _ _
   | exact laws_markText.mono _ _
   | exact LeO.none _
   | refine LeO.ite ?_ ?_
   | refine LeO.bind ?_ (fun _ => ?_)
theorem laws_markSlotS.mono : ∀ a0 a1 k, LeO (laws_markSlotS.f k a0 a1) (laws_markSlotS.f (k + 1) a0 a1) := by
 intro a0 a1 k
 have ih0 := laws_markSlotS.mono_l k
 unfold laws_markSlotS.f
 repeat' first
   | (with_reducible exact ih0 _ _ _)
   | (with_reducible exact laws_markByteS.mono _ _ _)
   | (with_reducible exact laws_markText.mono _ _)
   | (with_reducible exact LeO.refl _)
   | (with_reducible exact LeO.none _)
   | (with_reducible refine LeO.ite ?_ ?_)
   | (with_reducible refine LeO.bind ?_ (fun _ => ?_))
   | exact ih0 _ _ _
   | exact laws_markByteS.mono _ _ _
   | exact laws_markText.mono _ _
   | exact LeO.none _
   | refine LeO.ite ?_ ?_
   | refine LeO.bind ?_ (fun _ => ?_)
set_option maxHeartbeats 8000000 in
set_option maxRecDepth 100000 in
theorem laws_markSlotS.calls (k : Nat) (P0_ : Nat → Prop) (u9000_ : Value) (l0 : List (S74)) (a1 : Int) (r1 : Int) (r2 : List (S74)) (w0 w : World) (hB : Below w0.heap.size w0 w) (ho0 : Kd.S k74 74 w w0.heap.size P0_ u9000_ l0) (h : laws_markSlotS.f k l0 a1 = some (r1, r2)) :
  Calls Try.prog 42 #[u9000_, .int .i64 a1] w fun e w' => e = .returned (.int .i64 r1) ∧ Kd.S k74 74 w' w0.heap.size P0_ u9000_ r2 ∧ Below w0.heap.size w0 w' ∧ Kept w w' (fun k_ => P0_ k_) := by
 have hu74 := Try.underlying74
 obtain ⟨A0, c0, rfl⟩ := Kd.R_slice (Kd.S_R ho0)
 have HO0 := Aside0.mk (Kd.S_mono (Kd.S_bound ho0) (ok' := fun k_ => P0_ k_ ∧ w0.heap.size ≤ k_ ∧ k_ < w.heap.size) (fun k_ h_ => ⟨h_.1, h_.2.1, h_.2.2.1⟩))
 have HB := Aside0.mk hB
 have H' := Aside0.mk (show laws_markSlotS.l0 k l0 a1 0 = some (r1, r2) from h)
 clear h hB ho0
 go_enter Try.func42, Try.ntmps42
 go_wp2
 go_loopg [1, 5] k (fun kq v1 v5 w' => ∃ (x0 : List (S74)) (x1 : Int) (x5 : Int), v1 = .int .i64 x1 ∧ v5 = .int .i64 x5 ∧ Aside0 (laws_markSlotS.l0 kq x0 x1 x5 = some (r1, r2)) ∧ Aside0 (kq ≤ k) ∧ Aside0 (Kd.S k74 74 w' w0.heap.size (fun k_ => P0_ k_ ∧ w0.heap.size ≤ k_ ∧ k_ < w.heap.size) (.slice A0 l0.length c0) x0) ∧ Aside0 (Kept w w' (fun k_ => P0_ k_ ∧ w0.heap.size ≤ k_ ∧ k_ < w.heap.size)) ∧ Aside0 (Below w0.heap.size w0 w'))
 case atStart => exact ⟨l0, a1, 0, rfl, rfl, H', ⟨Nat.le_refl _⟩, HO0, ⟨Kept.refl _ _⟩, HB⟩
 case round =>
  clear H' HO0 HB
  obtain ⟨x0, x1, x5, rfl, rfl, HA, HK1, HO, HK, HB⟩ := hrel
  cases gk with
  | zero => exact absurd HA.out (by simp [laws_markSlotS.l0])
  | succ k1 =>
   have H := HA.out
   clear HA
   simp only [laws_markSlotS.l0] at H
   have hn := (Kd.R_reads' (Kd.S_R HO.out)).1
   by_cases c1 : x5 < (x0.length : Int)
   ·rw [if_pos c1] at H
    by_cases c2 : 0 ≤ x5
    ·rw [if_pos c2] at H
     obtain ⟨t1, E1, H⟩ := Option.bind_eq_some_iff.1 H
     obtain ⟨t2, E2, H⟩ := Option.bind_eq_some_iff.1 H
     obtain ⟨⟨m1, b2⟩, E3, H⟩ := Option.bind_eq_some_iff.1 H
     simp only [] at H
     have H' := Aside0.mk H
     have E1' := Aside0.mk E1
     have E2' := Aside0.mk E2
     have E3' := Aside0.mk E3
     clear H E1 E2 E3
     obtain ⟨g, cap, e_, hbg, hlt, _⟩ := Kd.R_form (Kd.S_R HO.out) (by omega)
     injection e_ with ea en ec
     subst ea
     subst ec
     clear en
     have h1' : x5 < (l0.length : Int) := by omega
     obtain ⟨oki, c, hM, hoki, hH⟩ := mk_open HO.out z74 c2 h1'
     have hM' : k74.M wr w0.heap.size oki (rd_T74 x0 x5) c := hM
     obtain ⟨v2, rfl, hv⟩ := k74_openM hM'
     obtain ⟨A2, c2', rfl⟩ := Kd.R_slice hv
     have HH := Aside0.mk hH
     have HV := Aside0.mk hv
     have HOK := Aside0.mk hoki
     have HN := Aside0.mk hn
     have HC1 := Aside0.mk c1
     have HC2 := Aside0.mk c2
     have HL1 := Aside0.mk h1'
     have p0 := eq_true c2
     have q0 := eq_true h1'
     have HG := Aside0.mk hbg
     have HGO := Aside0.mk ((Kd.S_R HO.out).1 g rfl)
     clear hM hM' hoki hH hv hn c1 c2 h1' hbg hlt
     go_wp2_with (first | (go_at_call 81; (with_reducible refine (laws_markText.calls k1 x1 t1 _ E1'.out).mono ?_); rintro e wa ⟨rfl, hb⟩; have hH1 := Kd.H_below HH.out hb; have hs1 := Kd.H_seg hH1 HC2.out HL1.out (seg := [.string t1]) (j := 0) (by show 0 + 1 ≤ 3; omega) (by intro q hq; cases List.mem_singleton.1 hq; rfl); have hc1 := (mk_cells hH1 HC2.out HL1.out).1 0 _ rfl; have hf1 := (mk_cells hH1 HC2.out HL1.out).2; have HH1 := Aside0.mk hs1; have HV1 := Aside0.mk (Kd.R_far (Kd.R_below HV.out hb) (p := ⟨g, x5.toNat * 3, none⟩) (fun k_ hk => (HOK.out k_ hk).2) (.string t1)); have HB1 := Aside0.mk (show Below w0.heap.size w0 (wa.setCell ⟨g, x5.toNat * 3, none⟩ (.string t1)) from (below_then HB.out HB.out.size hb).grown hs1.2 (Nat.le_trans HB.out.size hb.size) (fun k_ e_ => by cases e_; exact HG.out)); have HK1' := Aside0.mk (Kept.of_grown hs1.2 (Kept.below HK.out hb) (fun k_ e_ => by cases e_; exact .inl HGO.out));  simp only [show k74.sz = 3 from rfl, Nat.add_zero] at hc1; clear hb hH1 hs1) | (go_at_call 81; ((with_reducible refine (laws_markText.calls k1 (wrap64 (x1 + 1)) t2 _ E2'.out).mono ?_); rintro e wb ⟨rfl, hb⟩; have hH2 := Kd.H_below HH1.out.1 hb; have hs2 := Kd.H_seg hH2 HC2.out HL1.out (seg := [.string t2]) (j := 1) (by show 1 + 1 ≤ 3; omega) (by intro q hq; cases List.mem_singleton.1 hq; rfl); have hc2 := (mk_cells hH2 HC2.out HL1.out).1 1 _ rfl; have hc3 := (mk_cells hH2 HC2.out HL1.out).1 2 _ rfl; have hf2 := (mk_cells hH2 HC2.out HL1.out).2; have HH2 := Aside0.mk hs2; have HV2 := Aside0.mk (Kd.R_far (Kd.R_below HV1.out hb) (p := ⟨g, x5.toNat * 3 + 1, none⟩) (fun k_ hk => (HOK.out k_ hk).2) (.string t2)); have HB2 := Aside0.mk (show Below w0.heap.size w0 (wb.setCell ⟨g, x5.toNat * 3 + 1, none⟩ (.string t2)) from (below_then HB1.out HB1.out.size hb).grown hs2.2 (Nat.le_trans HB1.out.size hb.size) (fun k_ e_ => by cases e_; exact HG.out)); have HK2' := Aside0.mk (Kept.of_grown hs2.2 (Kept.below HK1'.out hb) (fun k_ e_ => by cases e_; exact .inl HGO.out)); simp only [show k74.sz = 3 from rfl] at hc2 hc3; clear hb hH2 hs2)) | (go_at_call 43; ((with_reducible refine (laws_markByteS.calls k1 oki (.slice A2 (rd_T74 x0 x5).f2.length c2') (rd_T74 x0 x5).f2 (wrap64 (wrap64 (x1 + 1) + 1)) m1 b2 w0 _ HB2.out HV2.out E3'.out).mono ?_); rintro e wc ⟨rfl, ho, hb, hk⟩; have HO3 := Aside0.mk ho; have HB3 := Aside0.mk hb; have HK3 := Aside0.mk hk; clear ho hb hk)))
     go_roundg k1
     case measure => exact Nat.lt_succ_self _
     case rel =>
      refine ⟨x0.set x5.toNat (⟨t1, t2, b2⟩ : S74), m1, wrap64 (x5 + 1), rfl, rfl, H', ⟨by have := HK1.out; omega⟩, ⟨?_⟩, ⟨Kept.then_ HK2'.out HK3.out (fun k_ hk => .inl (HOK.out k_ hk).1)⟩, HB3⟩
      exact Kd.H_back (c := [.string t1, .string t2, .slice A2 (rd_T74 x0 x5).f2.length c2']) (Kd.H_step HH2.out.1 (fun k_ ho hn hlt => HK3.out.2 k_ hlt hn)) (x' := (⟨t1, t2, b2⟩ : S74)) (k74_mkM _ _ _ (⟨t1, t2, b2⟩ : S74) (Kd.R_tight rfl HO3.out)) (fun k_ hk => HV2.out.1 k_ hk.symm)
    ·rw [if_neg c2] at H; cases H
   ·rw [if_neg c1] at H
    have H2 := Option.some.inj H
    injection H2 with e1 e2
    subst e1
    subst e2
    have d0 : decide (x5 < (l0.length : Int)) = false := decide_eq_false (by omega)
    clear H c1 hn
    go_wp2
    go_ret
    exact ⟨rfl, Kd.S_mono HO.out (fun k_ hk => hk.1), HB.out, Kept.mono HK.out (fun k_ hk => hk.1)⟩

/-! ### laws_heldByteS: function 44 -/
def laws_heldByteS.l0 : Nat → List Int → Int → Int → Option (Int)
 | 0, _, _, _ => none
 | k + 1, x0, x1, x5 => if x5 < (x0.length : Int) then (if 0 ≤ x5 then (if (rd x0 x5) = ((x1) % 256) then (laws_heldByteS.l0 k x0 (wrap64 (x1 + 1)) (wrap64 (x5 + 1))) else (some (-1))) else (none)) else (some x1)
def laws_heldByteS.f (k : Nat) (l0 : List Int) (a1 : Int) : Option (Int) := laws_heldByteS.l0 k l0 a1 0
theorem laws_heldByteS.mono_l : ∀ k, (∀ y0 y1 y2, LeO (laws_heldByteS.l0 k y0 y1 y2) (laws_heldByteS.l0 (k + 1) y0 y1 y2))
 | 0 => fun _ _ _ r h => by simp [laws_heldByteS.l0] at h
 | k + 1 => by
  have ih0 := laws_heldByteS.mono_l k
  ·intro y0 y1 y2
   unfold laws_heldByteS.l0
   repeat' first
   | (with_reducible exact ih0 _ _ _)
   | (with_reducible exact LeO.refl _)
   | (with_reducible exact LeO.none _)
   | (with_reducible refine LeO.ite ?_ ?_)
   | (with_reducible refine LeO.bind ?_ (fun _ => ?_))
   | exact ih0 _ _ _
   | exact LeO.none _
   | refine LeO.ite ?_ ?_
   | refine LeO.bind ?_ (fun _ => ?_)
theorem laws_heldByteS.mono : ∀ a0 a1 k, LeO (laws_heldByteS.f k a0 a1) (laws_heldByteS.f (k + 1) a0 a1) := by
 intro a0 a1 k
 have ih0 := laws_heldByteS.mono_l k
 unfold laws_heldByteS.f
 repeat' first
   | (with_reducible exact ih0 _ _ _)
   | (with_reducible exact LeO.refl _)
   | (with_reducible exact LeO.none _)
   | (with_reducible refine LeO.ite ?_ ?_)
   | (with_reducible refine LeO.bind ?_ (fun _ => ?_))
   | exact ih0 _ _ _
   | exact LeO.none _
   | refine LeO.ite ?_ ?_
   | refine LeO.bind ?_ (fun _ => ?_)
set_option maxHeartbeats 8000000 in
set_option maxRecDepth 100000 in
theorem laws_heldByteS.calls (k : Nat) (A0 : Option Addr) (c0 : Nat) (l0 : List Int) (a1 : Int) (r : Int) (w : World) (hr0 : Kd.C (Kd.int .u8) w A0 l0.length l0) (hc0 : l0.length ≤ c0) (h : laws_heldByteS.f k l0 a1 = some r) :
  Calls Try.prog 44 #[.slice A0 l0.length c0, .int .i64 a1] w fun e w' => e = .returned (.int .i64 r) ∧ Drawn0 w w' := by
 have HR0 := Aside0.mk hr0
 have HC0 := Aside0.mk hc0
 clear hr0 hc0
 have H : (laws_heldByteS.l0 k l0 a1 0) = some r := h
 clear h
 have H' := Aside0.mk H
 clear H
 go_enter Try.func44, Try.ntmps44
 go_wp2
 go_loopg [1, 5] k (fun kq v1 v5 w' => ∃ (x1_1 : Int) (x5_1 : Int), v1 = .int .i64 x1_1 ∧ v5 = .int .i64 x5_1 ∧ Aside0 (laws_heldByteS.l0 kq l0 x1_1 x5_1 = some r) ∧ Aside0 (kq ≤ k) ∧ Drawn0 w w')
 case atStart => exact ⟨(a1), (0), sp_, sp_, H', ⟨Nat.le_refl _⟩, by repeat (first | exact Drawn0.refl _ | apply Drawn0.step)⟩
 case round =>
  clear H'
  try clear p2
  obtain ⟨x1_1, x5_1, rfl, rfl, HA, HK1, ⟨m1, rfl⟩⟩ := hrel
  cases gk with
  | zero => exact absurd HA.out (by simp [laws_heldByteS.l0])
  | succ k1 =>
   have H := HA.out
   clear HA
   simp only [laws_heldByteS.l0] at H
   by_cases c3 : x5_1 < (l0.length : Int)
   ·rw [if_pos c3] at H
    have c3b0 : decide (x5_1 < (l0.length : Int)) = true := decide_eq_true c3
    clear c3
    by_cases c4 : 0 ≤ x5_1
    ·rw [if_pos c4] at H
     have c4b0 : decide (0 ≤ x5_1) = true := decide_eq_true c4
     clear c4
     by_cases c5 : (rd l0 x5_1) = ((x1_1) % 256)
     ·rw [if_pos c5] at H
      have c5b0 : ((rd l0 x5_1) == ((x1_1) % 256)) = true := beq_iff_eq.mpr c5
      have c5b1 : ((rd l0 x5_1) != ((x1_1) % 256)) = false := bne_eq_false_iff_eq.mpr c5
      clear c5
      have H' := Aside0.mk H
      clear H
      have p158 : 0 ≤ (x5_1 : Int) := od_
      have q158 : x5_1 < (l0.length : Int) := od_
      obtain ⟨ad158, e158, hx158_0⟩ := Kd.at_int HR0.out x5_1 p158 q158
      cases e158
      replace p158 := eq_true p158
      replace q158 := eq_true q158
      go_wp2
      go_roundg k1
      case measure => have := HK1.out; omega
      case rel => exact ⟨(wrap64 (x1_1 + 1)), (wrap64 (x5_1 + 1)), sp_, sp_, H', ⟨by have := HK1.out; omega⟩, by repeat (first | exact Drawn0.refl _ | apply Drawn0.step)⟩
     ·rw [if_neg c5] at H
      have c5b0 : ((rd l0 x5_1) == ((x1_1) % 256)) = false := beq_eq_false_iff_ne.mpr c5
      have c5b1 : ((rd l0 x5_1) != ((x1_1) % 256)) = true := bne_iff_ne.mpr c5
      obtain rfl := Option.some.inj H
      have p158 : 0 ≤ (x5_1 : Int) := od_
      have q158 : x5_1 < (l0.length : Int) := od_
      obtain ⟨ad158, e158, hx158_0⟩ := Kd.at_int HR0.out x5_1 p158 q158
      cases e158
      replace p158 := eq_true p158
      replace q158 := eq_true q158
      go_wp2
      go_ret
      exact ⟨sp_, by repeat (first | exact Drawn0.refl _ | apply Drawn0.step)⟩
    ·rw [if_neg c4] at H
     exact absurd H (by simp)
   ·rw [if_neg c3] at H
    have c3b0 : decide (x5_1 < (l0.length : Int)) = false := decide_eq_false c3
    clear c3
    obtain rfl := Option.some.inj H
    go_wp2
    go_ret
    exact ⟨sp_, by repeat (first | exact Drawn0.refl _ | apply Drawn0.step)⟩

/-! ### laws_FnExactSlotOf: function 8 -/
def laws_FnExactSlotOf.f (k : Nat) (l0 : List (S70)) (a1 : ByteArray) (a2 : ByteArray) : Option Bool := if (a1.size : Int) > 1048576 then some true else (if (a2.size : Int) > 1048576 then some true else ((laws_szSlotS.f k l0 1048576).bind fun t1 => (if t1 < 0 then some true else ((laws_toSlotS.f k l0).bind fun t3 => ((spec_SlotOf.f k t3 a1 a2).bind fun rE7 => ((laws_toSlotS.f k l0).bind fun t8 => ((impl_SlotOf.f t8 a1 a2).bind fun rE12 => ((laws_eqByteS.f k rE12.1 rE7.1).bind fun t13 => (if t13 = true then (if rE12.2 = rE7.2 then ((laws_toSlotS.f k l0).bind fun t15 => ((laws_eqSlotS.f k t8 t15).bind fun t17 => (if t17 = true then ((laws_markSlotS.f k t8 1).bind fun rE21 => (if rE21.1 < 0 then some false else ((laws_eqByteS.f k rE12.1 rE7.1).bind fun t22 => (if t22 = true then (if rE12.2 = rE7.2 then ((laws_markByteS.f k rE12.1 1).bind fun rE26 => ((laws_heldByteS.f k rE26.2 1).bind fun t27 => (if t27 < 0 then some false else (if t27 = rE26.1 then ((laws_toSlotS.f k l0).bind fun t29 => ((impl_SlotOf.f t29 a1 a2).bind fun rE33 => ((laws_eqByteS.f k rE33.1 rE7.1).bind fun t34 => (if t34 = true then (if rE33.2 = rE7.2 then ((laws_heldByteS.f k rE26.2 1).bind fun t36 => (if t36 < 0 then some false else (if t36 = rE26.1 then (some true) else some false))) else some false) else some false)))) else some false)))) else some false) else some false)))) else some false))) else some false) else some false)))))))))
set_option maxHeartbeats 8000000 in
set_option maxRecDepth 100000 in
theorem laws_FnExactSlotOf.calls (k : Nat) (A0 : Option Addr) (c0 : Nat) (l0 : List (S70)) (a1 : ByteArray) (a2 : ByteArray) (r : Bool) (w : World) (hr0 : Kd.C k70 w A0 l0.length l0) (hc0 : l0.length ≤ c0) (h : laws_FnExactSlotOf.f k l0 a1 a2 = some true) :
  Calls Try.prog 8 #[.slice A0 l0.length c0, .string a1, .string a2] w fun e w' => e = .returned (.bool true) ∧ Below w.heap.size w w' := by
 unfold laws_FnExactSlotOf.f at h
 have HR0 := Aside0.mk hr0
 have HC0 := Aside0.mk hc0
 clear hr0 hc0
 have HB := Aside0.mk (Below.refl w.heap.size w)
 have m_ : Aside0 True := ⟨trivial⟩
 have M1 := m_
 by_cases e0 : (a1.size : Int) > 1048576
 ·clear h
  have e0b : decide (1048576 < (a1.size : Int)) = true := decide_eq_true e0
  have e0c : decide (1048576 < a1.size) = true := decide_eq_true (by omega)
  clear e0
  go_enter Try.func8, Try.ntmps8
  go_wp2
  go_ret
  exact ⟨rfl, HB.out⟩
 ·rw [if_neg e0] at h
  have e0b : decide (1048576 < (a1.size : Int)) = false := decide_eq_false e0
  have e0c : decide (1048576 < a1.size) = false := decide_eq_false (by omega)
  clear e0
  by_cases e1 : (a2.size : Int) > 1048576
  ·clear h
   have e1b : decide (1048576 < (a2.size : Int)) = true := decide_eq_true e1
   have e1c : decide (1048576 < a2.size) = true := decide_eq_true (by omega)
   clear e1
   go_enter Try.func8, Try.ntmps8
   go_wp2
   go_ret
   exact ⟨rfl, HB.out⟩
  ·rw [if_neg e1] at h
   have e1b : decide (1048576 < (a2.size : Int)) = false := decide_eq_false e1
   have e1c : decide (1048576 < a2.size) = false := decide_eq_false (by omega)
   clear e1
   replace h := Option.bind_eq_some_iff.1 h
   obtain ⟨t1, E_, h⟩ := h
   have E2 := Aside0.mk E_
   clear E_
   by_cases e3 : t1 < 0
   ·clear h
    have e3b : decide (t1 < 0) = true := decide_eq_true e3
    clear e3
    go_enter Try.func8, Try.ntmps8
    go_wp2_with (first | (go_at_call 36; clear M1; (with_reducible refine (laws_szSlotS.calls k _ _ l0 1048576 t1 _ (Kd.C_below HR0.out HB.out) HC0.out E2.out).mono ?_); rintro e w1 ⟨rfl, hb_⟩; have M2 := m_; have HB := Aside0.mk (below_then HB.out HB.out.size hb_); have HS1 := Aside0.mk hb_.size; clear hb_))
    go_ret
    exact ⟨rfl, HB.out⟩
   ·rw [if_neg e3] at h
    have e3b : decide (t1 < 0) = false := decide_eq_false e3
    clear e3
    replace h := Option.bind_eq_some_iff.1 h
    obtain ⟨t3, E_, h⟩ := h
    have E4 := Aside0.mk E_
    clear E_
    replace h := Option.bind_eq_some_iff.1 h
    obtain ⟨⟨t5, t6⟩, E_, h⟩ := h
    have E7 := Aside0.mk E_
    clear E_
    simp only [] at h
    replace h := Option.bind_eq_some_iff.1 h
    obtain ⟨t8, E_, h⟩ := h
    have E9 := Aside0.mk E_
    clear E_
    replace h := Option.bind_eq_some_iff.1 h
    obtain ⟨⟨t10, t11⟩, E_, h⟩ := h
    have E12 := Aside0.mk E_
    clear E_
    simp only [] at h
    replace h := Option.bind_eq_some_iff.1 h
    obtain ⟨t13, E_, h⟩ := h
    have E14 := Aside0.mk E_
    clear E_
    by_cases b_ : t13 = true
    rotate_left
    ·rw [if_neg b_] at h; cases h
    rw [if_pos b_] at h
    subst b_
    by_cases e10 : t11 = t6
    rotate_left
    ·rw [if_neg e10] at h; cases h
    rw [if_pos e10] at h
    subst e10
    replace h := Option.bind_eq_some_iff.1 h
    obtain ⟨t15, E_, h⟩ := h
    have E16 := Aside0.mk E_
    clear E_
    replace h := Option.bind_eq_some_iff.1 h
    obtain ⟨t17, E_, h⟩ := h
    have E18 := Aside0.mk E_
    clear E_
    by_cases b_ : t17 = true
    rotate_left
    ·rw [if_neg b_] at h; cases h
    rw [if_pos b_] at h
    subst b_
    replace h := Option.bind_eq_some_iff.1 h
    obtain ⟨⟨t19, t20⟩, E_, h⟩ := h
    have E21 := Aside0.mk E_
    clear E_
    simp only [] at h
    by_cases e15 : t19 < 0
    ·rw [if_pos e15] at h; cases h
    rw [if_neg e15] at h
    have e15b : decide (t19 < 0) = false := decide_eq_false e15
    clear e15
    replace h := Option.bind_eq_some_iff.1 h
    obtain ⟨t22, E_, h⟩ := h
    have E23 := Aside0.mk E_
    clear E_
    by_cases b_ : t22 = true
    rotate_left
    ·rw [if_neg b_] at h; cases h
    rw [if_pos b_] at h
    subst b_
    first | rw [if_pos rfl] at h | rw [if_pos trivial] at h
    replace h := Option.bind_eq_some_iff.1 h
    obtain ⟨⟨t24, t25⟩, E_, h⟩ := h
    have E26 := Aside0.mk E_
    clear E_
    simp only [] at h
    replace h := Option.bind_eq_some_iff.1 h
    obtain ⟨t27, E_, h⟩ := h
    have E28 := Aside0.mk E_
    clear E_
    by_cases e21 : t27 < 0
    ·rw [if_pos e21] at h; cases h
    rw [if_neg e21] at h
    have e21b : decide (t27 < 0) = false := decide_eq_false e21
    clear e21
    by_cases e22 : t27 = t24
    rotate_left
    ·rw [if_neg e22] at h; cases h
    rw [if_pos e22] at h
    subst e22
    replace h := Option.bind_eq_some_iff.1 h
    obtain ⟨t29, E_, h⟩ := h
    have E30 := Aside0.mk E_
    clear E_
    replace h := Option.bind_eq_some_iff.1 h
    obtain ⟨⟨t31, t32⟩, E_, h⟩ := h
    have E33 := Aside0.mk E_
    clear E_
    simp only [] at h
    replace h := Option.bind_eq_some_iff.1 h
    obtain ⟨t34, E_, h⟩ := h
    have E35 := Aside0.mk E_
    clear E_
    by_cases b_ : t34 = true
    rotate_left
    ·rw [if_neg b_] at h; cases h
    rw [if_pos b_] at h
    subst b_
    by_cases e27 : t32 = t11
    rotate_left
    ·rw [if_neg e27] at h; cases h
    rw [if_pos e27] at h
    subst e27
    replace h := Option.bind_eq_some_iff.1 h
    obtain ⟨t36, E_, h⟩ := h
    have E37 := Aside0.mk E_
    clear E_
    by_cases e29 : t36 < 0
    ·rw [if_pos e29] at h; cases h
    rw [if_neg e29] at h
    have e29b : decide (t36 < 0) = false := decide_eq_false e29
    clear e29
    by_cases e30 : t36 = t27
    rotate_left
    ·rw [if_neg e30] at h; cases h
    rw [if_pos e30] at h
    subst e30
    clear h
    go_enter Try.func8, Try.ntmps8
    go_wp2_with (first | (go_at_call 36; clear M1; (with_reducible refine (laws_szSlotS.calls k _ _ l0 1048576 t1 _ (Kd.C_below HR0.out HB.out) HC0.out E2.out).mono ?_); rintro e w1 ⟨rfl, hb_⟩; have M2 := m_; have HB := Aside0.mk (below_then HB.out HB.out.size hb_); have HS1 := Aside0.mk hb_.size; clear hb_) | (go_at_call 38; clear M2; (with_reducible refine (laws_toSlotS.calls k _ _ l0 t3 _ (Kd.C_below HR0.out HB.out) HC0.out E4.out).mono ?_); rintro e w2 ⟨v2_0, rfl, o0_, hb_⟩; have M3 := m_; obtain ⟨A_1, c_1, rfl, _, _⟩ := Kd.R_reads (Kd.S_R o0_); have HO1 := Aside0.mk (Kd.S_lower (base' := w.heap.size) (Kd.S_mono (Kd.S_bound o0_) (fun k_ h_ => (⟨h_.2.1, h_.2.2.1⟩ : w1.heap.size ≤ k_ ∧ k_ < w2.heap.size))) HB.out.size); have HB := Aside0.mk (below_then HB.out HB.out.size hb_); have HS2 := Aside0.mk hb_.size; clear hb_ o0_) | (go_at_call 37; clear M3; (with_reducible refine (spec_SlotOf.calls k _ _ t3 a1 a2 t5 t32 _ (Kd.S_reads' HO1.out).2.2 (Kd.S_reads' HO1.out).2.1 E7.out).mono ?_); rintro e w3 ⟨v3_0, rfl, o0_, hb_⟩; have M4 := m_; have HO1 := Aside0.mk (Kd.S_below HO1.out hb_); obtain ⟨A_2, c_2, rfl, _, _⟩ := Kd.R_reads o0_; have HO2 := Aside0.mk (Kd.R_lower (base' := w.heap.size) (Kd.R_mono (Kd.R_bound o0_) (fun k_ h_ => (⟨h_.2.1, h_.2.2.1⟩ : w2.heap.size ≤ k_ ∧ k_ < w3.heap.size))) HB.out.size); have HB := Aside0.mk (below_then HB.out HB.out.size hb_); have HS3 := Aside0.mk hb_.size; clear hb_ o0_) | (go_at_call 38; clear M4; (with_reducible refine (laws_toSlotS.calls k _ _ l0 t8 _ (Kd.C_below HR0.out HB.out) HC0.out E9.out).mono ?_); rintro e w4 ⟨v4_0, rfl, o0_, hb_⟩; have M5 := m_; have HO1 := Aside0.mk (Kd.S_below HO1.out hb_); have HO2 := Aside0.mk (Kd.R_below HO2.out hb_); obtain ⟨A_3, c_3, rfl, _, _⟩ := Kd.R_reads (Kd.S_R o0_); have HO3 := Aside0.mk (Kd.S_lower (base' := w.heap.size) (Kd.S_mono (Kd.S_bound o0_) (fun k_ h_ => (⟨h_.2.1, h_.2.2.1⟩ : w3.heap.size ≤ k_ ∧ k_ < w4.heap.size))) HB.out.size); have HB := Aside0.mk (below_then HB.out HB.out.size hb_); have HS4 := Aside0.mk hb_.size; clear hb_ o0_) | (go_at_call 39; clear M5; (with_reducible refine (impl_SlotOf.calls _ _ t8 a1 a2 t10 t32 _ (Kd.S_reads' HO3.out).2.2 (Kd.S_reads' HO3.out).2.1 E12.out).mono ?_); rintro e w5 ⟨v5_0, rfl, o0_, hb_⟩; have M6 := m_; have HO1 := Aside0.mk (Kd.S_below HO1.out hb_); have HO2 := Aside0.mk (Kd.R_below HO2.out hb_); have HO3 := Aside0.mk (Kd.S_below HO3.out hb_); obtain ⟨A_4, c_4, rfl, _, _⟩ := Kd.R_reads o0_; have HO4 := Aside0.mk (Kd.R_lower (base' := w.heap.size) (Kd.R_mono (Kd.R_bound o0_) (fun k_ h_ => (⟨h_.2.1, h_.2.2.1⟩ : w4.heap.size ≤ k_ ∧ k_ < w5.heap.size))) HB.out.size); have HB := Aside0.mk (below_then HB.out HB.out.size hb_); have HS5 := Aside0.mk hb_.size; clear hb_ o0_) | (go_at_call 40; clear M6; (with_reducible refine (laws_eqByteS.calls k _ _ t10 _ _ t5 true _ (Kd.R_reads' HO4.out).2.2 (Kd.R_reads' HO4.out).2.1 (Kd.R_reads' HO2.out).2.2 (Kd.R_reads' HO2.out).2.1 E14.out).mono ?_); rintro e w6 ⟨rfl, hb_⟩; have M7 := m_; have hb_ := hb_.below; have HO1 := Aside0.mk (Kd.S_below HO1.out hb_); have HO2 := Aside0.mk (Kd.R_below HO2.out hb_); have HO3 := Aside0.mk (Kd.S_below HO3.out hb_); have HO4 := Aside0.mk (Kd.R_below HO4.out hb_); have HB := Aside0.mk (below_then HB.out HB.out.size hb_); have HS6 := Aside0.mk hb_.size; clear hb_) | (go_at_call 38; clear M7; (with_reducible refine (laws_toSlotS.calls k _ _ l0 t15 _ (Kd.C_below HR0.out HB.out) HC0.out E16.out).mono ?_); rintro e w7 ⟨v7_0, rfl, o0_, hb_⟩; have M8 := m_; have HO1 := Aside0.mk (Kd.S_below HO1.out hb_); have HO2 := Aside0.mk (Kd.R_below HO2.out hb_); have HO3 := Aside0.mk (Kd.S_below HO3.out hb_); have HO4 := Aside0.mk (Kd.R_below HO4.out hb_); obtain ⟨A_5, c_5, rfl, _, _⟩ := Kd.R_reads (Kd.S_R o0_); have HO5 := Aside0.mk (Kd.S_lower (base' := w.heap.size) (Kd.S_mono (Kd.S_bound o0_) (fun k_ h_ => (⟨h_.2.1, h_.2.2.1⟩ : w6.heap.size ≤ k_ ∧ k_ < w7.heap.size))) HB.out.size); have HB := Aside0.mk (below_then HB.out HB.out.size hb_); have HS7 := Aside0.mk hb_.size; clear hb_ o0_) | (go_at_call 41; clear M8; (with_reducible refine (laws_eqSlotS.calls k _ _ t8 _ _ t15 true _ (Kd.S_reads' HO3.out).2.2 (Kd.S_reads' HO3.out).2.1 (Kd.S_reads' HO5.out).2.2 (Kd.S_reads' HO5.out).2.1 E18.out).mono ?_); rintro e w8 ⟨rfl, hb_⟩; have M9 := m_; have HO1 := Aside0.mk (Kd.S_below HO1.out hb_); have HO2 := Aside0.mk (Kd.R_below HO2.out hb_); have HO3 := Aside0.mk (Kd.S_below HO3.out hb_); have HO4 := Aside0.mk (Kd.R_below HO4.out hb_); have HO5 := Aside0.mk (Kd.S_below HO5.out hb_); have HB := Aside0.mk (below_then HB.out HB.out.size hb_); have HS8 := Aside0.mk hb_.size; clear hb_) | (go_at_call 42; clear M9; (with_reducible refine (laws_markSlotS.calls k (fun k_ => w3.heap.size ≤ k_ ∧ k_ < w4.heap.size) (.slice A_3 t8.length c_3) t8 1 t19 t20 w _ HB.out HO3.out E21.out).mono ?_); rintro e w9 ⟨rfl, ho_, hb_, hk_⟩; have M10 := m_; have HO1 := Aside0.mk (Kd.S_step HO1.out (fun k_ h_ l_ => hk_.2 k_ l_ (fun g_ => by have h_' := h_; have g_' := g_; have := HS1.out; have := HS2.out; have := HS3.out; have := HS4.out; have := HS5.out; have := HS6.out; have := HS7.out; have := HS8.out; omega))); have HO2 := Aside0.mk (Kd.R_step HO2.out (fun k_ h_ l_ => hk_.2 k_ l_ (fun g_ => by have h_' := h_; have g_' := g_; have := HS1.out; have := HS2.out; have := HS3.out; have := HS4.out; have := HS5.out; have := HS6.out; have := HS7.out; have := HS8.out; omega))); have HO4 := Aside0.mk (Kd.R_step HO4.out (fun k_ h_ l_ => hk_.2 k_ l_ (fun g_ => by have h_' := h_; have g_' := g_; have := HS1.out; have := HS2.out; have := HS3.out; have := HS4.out; have := HS5.out; have := HS6.out; have := HS7.out; have := HS8.out; omega))); have HO5 := Aside0.mk (Kd.S_step HO5.out (fun k_ h_ l_ => hk_.2 k_ l_ (fun g_ => by have h_' := h_; have g_' := g_; have := HS1.out; have := HS2.out; have := HS3.out; have := HS4.out; have := HS5.out; have := HS6.out; have := HS7.out; have := HS8.out; omega))); have HO3 := Aside0.mk (ho_); have HB := Aside0.mk hb_; have HS9 := Aside0.mk hk_.1; have l_ := (Kd.S_reads' HO3.out).1; rw [l_] at HO3 ⊢; clear ho_ hb_ hk_ l_) | (go_at_call 40; clear M10; (with_reducible refine (laws_eqByteS.calls k _ _ t10 _ _ t5 true _ (Kd.R_reads' HO4.out).2.2 (Kd.R_reads' HO4.out).2.1 (Kd.R_reads' HO2.out).2.2 (Kd.R_reads' HO2.out).2.1 E23.out).mono ?_); rintro e w10 ⟨rfl, hb_⟩; have M11 := m_; have hb_ := hb_.below; have HO1 := Aside0.mk (Kd.S_below HO1.out hb_); have HO2 := Aside0.mk (Kd.R_below HO2.out hb_); have HO3 := Aside0.mk (Kd.S_below HO3.out hb_); have HO4 := Aside0.mk (Kd.R_below HO4.out hb_); have HO5 := Aside0.mk (Kd.S_below HO5.out hb_); have HB := Aside0.mk (below_then HB.out HB.out.size hb_); have HS10 := Aside0.mk hb_.size; clear hb_) | (go_at_call 43; clear M11; (with_reducible refine (laws_markByteS.calls k (fun k_ => w4.heap.size ≤ k_ ∧ k_ < w5.heap.size) (.slice A_4 t10.length c_4) t10 1 t36 t25 w _ HB.out HO4.out E26.out).mono ?_); rintro e w11 ⟨rfl, ho_, hb_, hk_⟩; have M12 := m_; have HO1 := Aside0.mk (Kd.S_step HO1.out (fun k_ h_ l_ => hk_.2 k_ l_ (fun g_ => by have h_' := h_; have g_' := g_; have := HS1.out; have := HS2.out; have := HS3.out; have := HS4.out; have := HS5.out; have := HS6.out; have := HS7.out; have := HS8.out; have := HS9.out; have := HS10.out; omega))); have HO2 := Aside0.mk (Kd.R_step HO2.out (fun k_ h_ l_ => hk_.2 k_ l_ (fun g_ => by have h_' := h_; have g_' := g_; have := HS1.out; have := HS2.out; have := HS3.out; have := HS4.out; have := HS5.out; have := HS6.out; have := HS7.out; have := HS8.out; have := HS9.out; have := HS10.out; omega))); have HO3 := Aside0.mk (Kd.S_step HO3.out (fun k_ h_ l_ => hk_.2 k_ l_ (fun g_ => by have h_' := h_; have g_' := g_; have := HS1.out; have := HS2.out; have := HS3.out; have := HS4.out; have := HS5.out; have := HS6.out; have := HS7.out; have := HS8.out; have := HS9.out; have := HS10.out; omega))); have HO5 := Aside0.mk (Kd.S_step HO5.out (fun k_ h_ l_ => hk_.2 k_ l_ (fun g_ => by have h_' := h_; have g_' := g_; have := HS1.out; have := HS2.out; have := HS3.out; have := HS4.out; have := HS5.out; have := HS6.out; have := HS7.out; have := HS8.out; have := HS9.out; have := HS10.out; omega))); have HO4 := Aside0.mk (Kd.R_mono (Kd.R_tight rfl ho_) (fun k_ h_ => (HO4.out.1 k_ h_.symm : w4.heap.size ≤ k_ ∧ k_ < w5.heap.size))); have HB := Aside0.mk hb_; have HS11 := Aside0.mk hk_.1; have l_ := (Kd.R_reads' HO4.out).1; rw [l_] at HO4 ⊢; clear ho_ hb_ hk_ l_) | (go_at_call 44; clear M12; (with_reducible refine (laws_heldByteS.calls k _ _ t25 1 t36 _ (Kd.R_reads' HO4.out).2.2 (Kd.R_reads' HO4.out).2.1 E28.out).mono ?_); rintro e w12 ⟨rfl, hb_⟩; have M13 := m_; have hb_ := hb_.below; have HO1 := Aside0.mk (Kd.S_below HO1.out hb_); have HO2 := Aside0.mk (Kd.R_below HO2.out hb_); have HO3 := Aside0.mk (Kd.S_below HO3.out hb_); have HO4 := Aside0.mk (Kd.R_below HO4.out hb_); have HO5 := Aside0.mk (Kd.S_below HO5.out hb_); have HB := Aside0.mk (below_then HB.out HB.out.size hb_); have HS12 := Aside0.mk hb_.size; clear hb_) | (go_at_call 38; clear M13; (with_reducible refine (laws_toSlotS.calls k _ _ l0 t29 _ (Kd.C_below HR0.out HB.out) HC0.out E30.out).mono ?_); rintro e w13 ⟨v13_0, rfl, o0_, hb_⟩; have M14 := m_; have HO1 := Aside0.mk (Kd.S_below HO1.out hb_); have HO2 := Aside0.mk (Kd.R_below HO2.out hb_); have HO3 := Aside0.mk (Kd.S_below HO3.out hb_); have HO4 := Aside0.mk (Kd.R_below HO4.out hb_); have HO5 := Aside0.mk (Kd.S_below HO5.out hb_); obtain ⟨A_6, c_6, rfl, _, _⟩ := Kd.R_reads (Kd.S_R o0_); have HO6 := Aside0.mk (Kd.S_lower (base' := w.heap.size) (Kd.S_mono (Kd.S_bound o0_) (fun k_ h_ => (⟨h_.2.1, h_.2.2.1⟩ : w12.heap.size ≤ k_ ∧ k_ < w13.heap.size))) HB.out.size); have HB := Aside0.mk (below_then HB.out HB.out.size hb_); have HS13 := Aside0.mk hb_.size; clear hb_ o0_) | (go_at_call 39; clear M14; (with_reducible refine (impl_SlotOf.calls _ _ t29 a1 a2 t31 t32 _ (Kd.S_reads' HO6.out).2.2 (Kd.S_reads' HO6.out).2.1 E33.out).mono ?_); rintro e w14 ⟨v14_0, rfl, o0_, hb_⟩; have M15 := m_; have HO1 := Aside0.mk (Kd.S_below HO1.out hb_); have HO2 := Aside0.mk (Kd.R_below HO2.out hb_); have HO3 := Aside0.mk (Kd.S_below HO3.out hb_); have HO4 := Aside0.mk (Kd.R_below HO4.out hb_); have HO5 := Aside0.mk (Kd.S_below HO5.out hb_); have HO6 := Aside0.mk (Kd.S_below HO6.out hb_); obtain ⟨A_7, c_7, rfl, _, _⟩ := Kd.R_reads o0_; have HO7 := Aside0.mk (Kd.R_lower (base' := w.heap.size) (Kd.R_mono (Kd.R_bound o0_) (fun k_ h_ => (⟨h_.2.1, h_.2.2.1⟩ : w13.heap.size ≤ k_ ∧ k_ < w14.heap.size))) HB.out.size); have HB := Aside0.mk (below_then HB.out HB.out.size hb_); have HS14 := Aside0.mk hb_.size; clear hb_ o0_) | (go_at_call 40; clear M15; (with_reducible refine (laws_eqByteS.calls k _ _ t31 _ _ t5 true _ (Kd.R_reads' HO7.out).2.2 (Kd.R_reads' HO7.out).2.1 (Kd.R_reads' HO2.out).2.2 (Kd.R_reads' HO2.out).2.1 E35.out).mono ?_); rintro e w15 ⟨rfl, hb_⟩; have M16 := m_; have hb_ := hb_.below; have HO1 := Aside0.mk (Kd.S_below HO1.out hb_); have HO2 := Aside0.mk (Kd.R_below HO2.out hb_); have HO3 := Aside0.mk (Kd.S_below HO3.out hb_); have HO4 := Aside0.mk (Kd.R_below HO4.out hb_); have HO5 := Aside0.mk (Kd.S_below HO5.out hb_); have HO6 := Aside0.mk (Kd.S_below HO6.out hb_); have HO7 := Aside0.mk (Kd.R_below HO7.out hb_); have HB := Aside0.mk (below_then HB.out HB.out.size hb_); have HS15 := Aside0.mk hb_.size; clear hb_) | (go_at_call 44; clear M16; (with_reducible refine (laws_heldByteS.calls k _ _ t25 1 t36 _ (Kd.R_reads' HO4.out).2.2 (Kd.R_reads' HO4.out).2.1 E37.out).mono ?_); rintro e w16 ⟨rfl, hb_⟩; have M17 := m_; have hb_ := hb_.below; have HO1 := Aside0.mk (Kd.S_below HO1.out hb_); have HO2 := Aside0.mk (Kd.R_below HO2.out hb_); have HO3 := Aside0.mk (Kd.S_below HO3.out hb_); have HO4 := Aside0.mk (Kd.R_below HO4.out hb_); have HO5 := Aside0.mk (Kd.S_below HO5.out hb_); have HO6 := Aside0.mk (Kd.S_below HO6.out hb_); have HO7 := Aside0.mk (Kd.R_below HO7.out hb_); have HB := Aside0.mk (below_then HB.out HB.out.size hb_); have HS16 := Aside0.mk hb_.size; clear hb_))
    go_ret
    exact ⟨rfl, HB.out⟩

def ok70 (x : S70) : Prop := (x.f0.size ≤ maxLen) ∧ (x.f1.size ≤ maxLen) ∧ (x.f2.length ≤ maxLen ∧ ∀ y0 ∈ x.f2, (Lit.int .u8 y0).wf = true)
/-- THE ONE PURE STATEMENT of laws_FnExactSlotOf. -/
def laws_FnExactSlotOf.Pure : Prop := ∀ (l0 : List (S70)) (a1 : ByteArray) (a2 : ByteArray), (l0.length ≤ maxLen ∧ ∀ y0 ∈ l0, ok70 y0) → (a1.size ≤ maxLen) → (a2.size ≤ maxLen) → ∃ k, laws_FnExactSlotOf.f k l0 a1 a2 = some true

end Go.Proofs.Ytepjnalkpfnmcaa.QFnExactSlotOf
