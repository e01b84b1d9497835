-- by my own printer (myprint.py, over the kit's print.py)
import Derived.Test.YtohfefkjcnbejaaGreatDoorQFnExactReqOfx0
import Derived.Test.YtohfefkjcnbejaaGreatDoorQFnExactReqOfx10
import Derived.Test.YtohfefkjcnbejaaGreatDoorQFnExactReqOfx11
import Derived.Test.YtohfefkjcnbejaaGreatDoorQFnExactReqOfx13
namespace Go.Proofs.YtohfefkjcnbejaaGreatDoor.QFnExactReqOf
open Go.RowKit Go.Proofs.YtohfefkjcnbejaaGreatDoorW.PrintWords Go.Proofs.YtohfefkjcnbejaaGreatDoorW.PrintLast Go.Proofs.YtohfefkjcnbejaaGreatDoorW.PrintMore
attribute [local go_sem] max2_int min2_int max_two min_two max_three min_three max_four min_four   -- for this text's walks alone
set_option linter.unusedVariables false
set_option linter.unusedSimpArgs false
attribute [local go_sem] my_geq my_leq my_gtr
abbrev tb13_0_14 : Array Bool := #[b0, b0, b0, b0, b0, b0, b0, b0, b0, b0, b0, b0, b0]
abbrev tb13_1_14 : Array Bool := #[b1, b0, b0, b0, b0, b0, b0, b0, b0, b0, b0, b0, b0]
abbrev tb13_17f_14 : Array Bool := #[b1, b1, b1, b1, b1, b1, b1, b0, b1, b0, b0, b0, b0]
abbrev tb13_1f_14 : Array Bool := #[b1, b1, b1, b1, b1, b0, b0, b0, b0, b0, b0, b0, b0]
abbrev tb13_1ff_14 : Array Bool := #[b1, b1, b1, b1, b1, b1, b1, b1, b1, b0, b0, b0, b0]
abbrev tb13_1fff_14 : Array Bool := #[b1, b1, b1, b1, b1, b1, b1, b1, b1, b1, b1, b1, b1]
abbrev tb13_3f_14 : Array Bool := #[b1, b1, b1, b1, b1, b1, b0, b0, b0, b0, b0, b0, b0]
abbrev tb13_3ff_14 : Array Bool := #[b1, b1, b1, b1, b1, b1, b1, b1, b1, b1, b0, b0, b0]
abbrev tb13_5_14 : Array Bool := #[b1, b0, b1, b0, b0, b0, b0, b0, b0, b0, b0, b0, b0]
abbrev tb13_7_14 : Array Bool := #[b1, b1, b1, b0, b0, b0, b0, b0, b0, b0, b0, b0, b0]
abbrev tb13_7f_14 : Array Bool := #[b1, b1, b1, b1, b1, b1, b1, b0, b0, b0, b0, b0, b0]
abbrev tb13_7ff_14 : Array Bool := #[b1, b1, b1, b1, b1, b1, b1, b1, b1, b1, b1, b0, b0]
abbrev tb13_f_14 : Array Bool := #[b1, b1, b1, b1, b0, b0, b0, b0, b0, b0, b0, b0, b0]
abbrev tb13_ff_14 : Array Bool := #[b1, b1, b1, b1, b1, b1, b1, b1, b0, b0, b0, b0, b0]
abbrev tb13_fff_14 : Array Bool := #[b1, b1, b1, b1, b1, b1, b1, b1, b1, b1, b1, b1, b0]
/-! ### opRows_index: function 49, handed function 51 -/
theorem opRows_index.rdN {xs : List S74} {x : Int} (h : x.toNat < xs.length) : rd_T74 xs x = xs[x.toNat] := by
 unfold rd_T74
 rw [List.getD_eq_getElem?_getD, List.getElem?_eq_getElem h]; rfl
def opRows_index.idxF (p : S74 → Bool) (xs : List S74) : Int := match xs.findIdx? p with | some j => (j : Int) | none => -1
theorem opRows_index.idxF_none (p : S74 → Bool) (xs : List S74) (h : ∀ j (hj : j < xs.length), p xs[j] = false) : opRows_index.idxF p xs = -1 := by
 unfold opRows_index.idxF
 have : xs.findIdx? p = none := by
  rw [List.findIdx?_eq_none_iff]
  intro x hx
  obtain ⟨j, hj, rfl⟩ := List.getElem_of_mem hx
  exact h j hj
 rw [this]
theorem opRows_index.idxF_some (p : S74 → Bool) (xs : List S74) (i : Nat) (hi : i < xs.length) (hp : p xs[i] = true) (h : ∀ j (hj : j < i), p (xs[j]'(by omega)) = false) : opRows_index.idxF p xs = (i : Int) := by
 unfold opRows_index.idxF
 have : xs.findIdx? p = some i := by
  rw [List.findIdx?_eq_some_iff_getElem]
  exact ⟨hi, hp, fun j hj => by simpa using h j hj⟩
 rw [this]
set_option maxHeartbeats 2000000 in
set_option maxRecDepth 100000 in
theorem opRows_index.idx (A0 : Option Addr) (c0 : Nat) (l0 : List S74) (g : Nat) (lb : Array Value) (p : S74 → Bool) (w : World) (hr0 : Kd.C k74 w A0 l0.length l0) (hc0 : l0.length ≤ c0)
  (eg : ∀ args w, (callFunc g args).run Tryz.prog w = .ok (.enter g args) w)
  (hp : ∀ (W : World) (x : S74) (A3 : Option Addr) (c3 : Nat), Below w.heap.size w W → Calls Tryz.prog g (#[.agg #[.string x.f0, .string x.f1, .string x.f2, .slice A3 x.f3.length c3]] ++ lb) W fun e w' => e = .returned (.bool (p x)) ∧ Below W.heap.size W w') :
  Calls Tryz.prog 49 #[.slice A0 l0.length c0, .func (.func g) #[] lb] w fun e w' => e = .returned (.int .i64 (opRows_index.idxF p l0)) ∧ Below w.heap.size w w' := by
 have hlen : l0.length ≤ 9223372036854775807 := hr0.2.1
 have HR0 := Aside0.mk hr0
 have HL := Aside0.mk hlen
 have HP := Aside0.mk hp
 clear hr0 hp
 have HB := Aside0.mk (Below.refl w.heap.size w)
 have hu74 := Tryz.underlying74
 clear hlen hc0
 go_enter Tryz.func49, Tryz.ntmps49
 go_wp2
 go_loopg [5, 8] l0.length (fun gg _ s8 wr => ∃ x : Int, s8 = .int .i64 x ∧ Aside0 (0 ≤ x) ∧ Aside0 (x ≤ l0.length) ∧ Aside0 (l0.length - x.toNat ≤ gg) ∧ Aside0 (∀ j (hj : j < l0.length), (j : Int) < x → p l0[j] = false) ∧ Aside0 (Below w.heap.size w wr))
 case atStart => exact ⟨0, rfl, ⟨by omega⟩, ⟨by omega⟩, ⟨by omega⟩, ⟨fun j hj h => by omega⟩, ⟨Below.refl _ w⟩⟩
 case round =>
  obtain ⟨x, rfl, H0, H1, HG, AF, HB⟩ := hrel
  by_cases hlt : x < (l0.length : Int)
  ·have hN : x.toNat < l0.length := by have := H0.out; omega
   have HN := Aside0.mk hN
   have c0 : decide (x < (l0.length : Int)) = true := decide_eq_true hlt
   obtain ⟨ad, A3, c3, e, hx0, hx1, hx2, hx3, hl3, hi3⟩ := at_T74 HR0.out x H0.out hlt
   cases e
   replace hx0 := kc_ HB hx0
   replace hx1 := kc_ HB hx1
   replace hx2 := kc_ HB hx2
   replace hx3 := kc_ HB hx3
   have p0 := eq_true H0.out
   have q0 := eq_true hlt
   clear hN hlt
   have HX := Aside0.mk (opRows_index.rdN HN.out)
   cases hq : p (rd_T74 l0 x) with
   | true =>
    have HC := Aside0.mk (hq ▸ HP.out wr (rd_T74 l0 x) A3 c3 HB.out)
    have HQ := Aside0.mk hq
    clear hq
    go_wp2_with (go_at_fn g; refine HC.out.mono ?_; rintro e w' ⟨rfl, hb'⟩)
    go_ret
    exact ⟨by show Ending.returned (Value.int .i64 x) = _; rw [opRows_index.idxF_some p l0 x.toNat HN.out (by rw [← HX.out]; exact HQ.out) (fun j hj => AF.out j (by have := HN.out; omega) (by omega)), Int.toNat_of_nonneg H0.out], below_step HB.out hb'⟩
   | false =>
    have HC := Aside0.mk (hq ▸ HP.out wr (rd_T74 l0 x) A3 c3 HB.out)
    have HQ := Aside0.mk hq
    clear hq
    go_wp2_with (go_at_fn g; refine HC.out.mono ?_; rintro e w' ⟨rfl, hb'⟩; have HB' := Aside0.mk hb'; clear hb')
    have hw := HL.out
    have e1 : wrap64 (x + 1) = x + 1 := by have := HN.out; have := H0.out; unfold wrap64; omega
    go_roundg (l0.length - (x.toNat + 1))
    case measure => have := HG.out; have := HN.out; omega
    case rel =>
     have hN := HN.out
     have h0 := H0.out
     refine ⟨wrap64 (x + 1), (by first | rfl | (simp; done) | (simp [*]; done)), ⟨by omega⟩, ⟨by omega⟩, ⟨by omega⟩, ⟨fun j hj h => ?_⟩, ⟨below_step HB.out HB'.out⟩⟩
     by_cases e : j = x.toNat
     ·subst e; rw [← HX.out]; exact HQ.out
     ·exact AF.out j hj (by omega)
  ·have c0 : decide (x < (l0.length : Int)) = false := decide_eq_false hlt
   have HN := Aside0.mk hlt
   clear hlt
   go_wp2
   go_ret
   exact ⟨by show Ending.returned (Value.int .i64 (-1)) = _; rw [opRows_index.idxF_none p l0 (fun j hj => AF.out j hj (by have := HN.out; omega))], HB.out⟩
def opRows_index.T1 : Bool × List (List Nat × List Nat) := (true, [([], []), ([0], [0]), ([], []), ([2], [2]), ([1, 3], [1, 3]), ([4], [4]), ([5], [5]), ([6, 5], [5, 6]), ([5], [5]), ([8, 5], [5, 8]), ([7, 9, 5], [5, 7, 9]), ([5, 10], [5, 10]), ([11, 5, 0, 1, 2, 3, 4, 5, 6, 7, 8, 9, 10, 11], [11])])
def opRows_index.B1 : List Nat := [0, 1, 0, 4, 15, 31, 63, 127, 63, 319, 1023, 2047, 4095]
theorem opRows_index.tab1 : rtab .any (opsOf Tryz.f51 1) = opRows_index.T1 := by kernel_rfl
theorem opRows_index.bits1 : waitsOk opRows_index.T1.2 opRows_index.B1 = true := by kernel_rfl
set_option maxHeartbeats 2000000 in
set_option maxRecDepth 100000 in
theorem opRows_index.clo (x : S74) (A3 : Option Addr) (c3 : Nat) (a1 a2 : ByteArray) (hl : 2 ≤ a2.size) (B1 B2 : Nat) (v1 : Value) (w : World) (h1 : w.heap[B1]? = some (.cells #[.string a1, v1] 32 (0, 0))) (h2 : w.heap[B2]? = some (.cells #[.string a2] 9 (0, 0))) :
  Calls Tryz.prog 51 #[.agg #[.string x.f0, .string x.f1, .string x.f2, .slice A3 x.f3.length c3], .pointer (some ⟨B1, 0, none⟩), .pointer (some ⟨B2, 0, none⟩)] w fun e w' => e = .returned (.bool ((fun x => x.f0.toList == a1.toList && x.f1.toList == (a2.extract 0 2).toList) x)) ∧ Below w.heap.size w w' := by
 have hu74 := Tryz.underlying74
 have hu32 := Tryz.underlying32
 have hlt1 := blk_lt h1
 have hc1 := blk_cell h1 0
 have hf1 := blk_frozen h1 0
 have hlt2 := blk_lt h2
 have hc2 := blk_cell h2 0
 have hf2 := blk_frozen h2 0
 have q0 : ((2 : Int) ≤ (a2.size : Int)) = True := eq_true (by omega)
 have q1 : decide ((2 : Int) ≤ (a2.size : Int)) = true := decide_eq_true (by omega)
 have q2 : (2 ≤ a2.size) = True := eq_true hl
 cases hq : (x.f0.toList == a1.toList) with
 | true =>
  go_enter Tryz.func51, Tryz.ntmps51
  try go_wp2
  have K0 : (w.alloc (.cells #[.string x.f0, .string x.f1, .string x.f2, .slice A3 x.f3.length c3] 74)).heap[w.heap.size]? = some (.cells #[.string x.f0, .string x.f1, .string x.f2, .slice A3 x.f3.length c3] 74 (0, 0)) := heap_alloc_new w _
  have K1 := blk_alloc h1 (.cells #[.string x.f0, .string x.f1, .string x.f2, .slice A3 x.f3.length c3] 74)
  have K2 := blk_alloc h2 (.cells #[.string x.f0, .string x.f1, .string x.f2, .slice A3 x.f3.length c3] 74)
  have HB := Aside0.mk (below_drew1 (below_alloc (Below.refl w.heap.size w) (.cells #[.string x.f0, .string x.f1, .string x.f2, .slice A3 x.f3.length c3] 74)))
  have D0 := Aside0.mk (blk_drew K0)
  have D1 := Aside0.mk (blk_drew K1)
  have D2 := Aside0.mk (blk_drew K2)
  refine start_ (n := 13) (S := fun w' => w'.cell? ⟨w.heap.size, 0, none⟩ = some (.string x.f0) ∧ w'.cell? ⟨w.heap.size, 1, none⟩ = some (.string x.f1) ∧ w'.cell? ⟨B1, 0, none⟩ = some (.string a1) ∧ w'.cell? ⟨B2, 0, none⟩ = some (.string a2)) (ds := []) tb13_0_14 (by kernel_rfl) rfl rfl ⟨cy_ D0 0, cy_ D0 1, cy_ D1 0, cy_ D2 0⟩ (fun hHeld => ?_)
  refine with_tabW opRows_index.tab1 opRows_index.bits1 (fun HT_ HW_ => ?_)
  clear K0 K1 K2 D0 D1 D2 hc1 hf1 hc2 hf2
  generalize (w.alloc (.cells #[.string x.f0, .string x.f1, .string x.f2, .slice A3 x.f3.length c3] 74)).drew = w2 at HB hHeld ⊢
  refine pl_ HT_ 0 5 tb13_1_14 ?_
  refine pl_ HT_ 2 7 tb13_5_14 ?_
  refine take_ (i := 1) (N := some 6) (v := ?_) (a' := ?_) tb13_7_14 rfl rfl (take_ofW HT_.out HW_.out (by kernel_rfl)) (fun _ _ _ h => h) (Or.inl ⟨by rfl, ?_⟩) hHeld ?_ ?_
  rotate_left
  ·rintro w' ⟨s0, s1, s2, s3⟩
   go_simp
   with_reducible rfl
  rotate_left
  ·simp only [Act.put, q_]
   rfl
  refine take_ (i := 3) (N := some 8) (v := ?_) (a' := ?_) tb13_f_14 rfl rfl (take_ofW HT_.out HW_.out (by kernel_rfl)) (fun _ _ _ h => h) (Or.inl ⟨by rfl, ?_⟩) hHeld ?_ ?_
  rotate_left
  ·rintro w' ⟨s0, s1, s2, s3⟩
   go_simp
   with_reducible rfl
  rotate_left
  ·simp only [Act.put, q_]
   rfl
  refine pl_ HT_ 4 9 tb13_1f_14 ?_
  refine pl_ HT_ 5 10 tb13_3f_14 ?_
  refine pl_ HT_ 6 11 tb13_7f_14 ?_
  refine take_ (i := 8) (N := some 13) (v := ?_) (a' := ?_) tb13_17f_14 rfl rfl (take_ofW HT_.out HW_.out (by kernel_rfl)) (fun _ _ _ h => h) (Or.inl ⟨by rfl, ?_⟩) hHeld ?_ ?_
  rotate_left
  ·rintro w' ⟨s0, s1, s2, s3⟩
   go_simp
   with_reducible rfl
  rotate_left
  ·simp only [Act.put, q_]
   rfl
  refine take_ (i := 7) (N := some 12) (v := ?_) (a' := ?_) tb13_1ff_14 rfl rfl (take_ofW HT_.out HW_.out (by kernel_rfl)) (fun _ _ _ h => h) (Or.inl ⟨by rfl, ?_⟩) hHeld ?_ ?_
  rotate_left
  ·rintro w' ⟨s0, s1, s2, s3⟩
   go_simp
   with_reducible rfl
  rotate_left
  ·simp only [Act.put, q_]
   rfl
  refine pl_ HT_ 9 14 tb13_3ff_14 ?_
  refine pl_ HT_ 10 15 tb13_7ff_14 ?_
  refine pl_ HT_ 11 16 tb13_fff_14 ?_
  refine pl_ HT_ 12 4 tb13_1fff_14 ?_
  refine done_ (done_of HT_.out (by kernel_rfl)) ?_
  try go_wp2
  go_ret
  exact ⟨by simp [hq], bl_⟩
 | false =>
  go_enter Tryz.func51, Tryz.ntmps51
  try go_wp2
  have K0 : (w.alloc (.cells #[.string x.f0, .string x.f1, .string x.f2, .slice A3 x.f3.length c3] 74)).heap[w.heap.size]? = some (.cells #[.string x.f0, .string x.f1, .string x.f2, .slice A3 x.f3.length c3] 74 (0, 0)) := heap_alloc_new w _
  have K1 := blk_alloc h1 (.cells #[.string x.f0, .string x.f1, .string x.f2, .slice A3 x.f3.length c3] 74)
  have K2 := blk_alloc h2 (.cells #[.string x.f0, .string x.f1, .string x.f2, .slice A3 x.f3.length c3] 74)
  have HB := Aside0.mk (below_drew1 (below_alloc (Below.refl w.heap.size w) (.cells #[.string x.f0, .string x.f1, .string x.f2, .slice A3 x.f3.length c3] 74)))
  have D0 := Aside0.mk (blk_drew K0)
  have D1 := Aside0.mk (blk_drew K1)
  have D2 := Aside0.mk (blk_drew K2)
  refine start_ (n := 13) (S := fun w' => w'.cell? ⟨w.heap.size, 0, none⟩ = some (.string x.f0) ∧ w'.cell? ⟨w.heap.size, 1, none⟩ = some (.string x.f1) ∧ w'.cell? ⟨B1, 0, none⟩ = some (.string a1) ∧ w'.cell? ⟨B2, 0, none⟩ = some (.string a2)) (ds := []) tb13_0_14 (by kernel_rfl) rfl rfl ⟨cy_ D0 0, cy_ D0 1, cy_ D1 0, cy_ D2 0⟩ (fun hHeld => ?_)
  refine with_tabW opRows_index.tab1 opRows_index.bits1 (fun HT_ HW_ => ?_)
  clear K0 K1 K2 D0 D1 D2 hc1 hf1 hc2 hf2
  generalize (w.alloc (.cells #[.string x.f0, .string x.f1, .string x.f2, .slice A3 x.f3.length c3] 74)).drew = w2 at HB hHeld ⊢
  refine pl_ HT_ 0 5 tb13_1_14 ?_
  refine pl_ HT_ 2 7 tb13_5_14 ?_
  refine take_ (i := 1) (N := some 6) (v := ?_) (a' := ?_) tb13_7_14 rfl rfl (take_ofW HT_.out HW_.out (by kernel_rfl)) (fun _ _ _ h => h) (Or.inl ⟨by rfl, ?_⟩) hHeld ?_ ?_
  rotate_left
  ·rintro w' ⟨s0, s1, s2, s3⟩
   go_simp
   with_reducible rfl
  rotate_left
  ·simp only [Act.put, q_]
   rfl
  refine take_ (i := 3) (N := some 8) (v := ?_) (a' := ?_) tb13_f_14 rfl rfl (take_ofW HT_.out HW_.out (by kernel_rfl)) (fun _ _ _ h => h) (Or.inl ⟨by rfl, ?_⟩) hHeld ?_ ?_
  rotate_left
  ·rintro w' ⟨s0, s1, s2, s3⟩
   go_simp
   with_reducible rfl
  rotate_left
  ·simp only [Act.put, q_]
   rfl
  refine pl_ HT_ 4 9 tb13_1f_14 ?_
  refine pl_ HT_ 5 10 tb13_3f_14 ?_
  refine pr_ HT_ 6 11 tb13_7f_14 ?_
  refine pr_ HT_ 7 12 tb13_ff_14 ?_
  refine pr_ HT_ 8 13 tb13_1ff_14 ?_
  refine pr_ HT_ 9 14 tb13_3ff_14 ?_
  refine pr_ HT_ 10 15 tb13_7ff_14 ?_
  refine pl_ HT_ 11 16 tb13_fff_14 ?_
  refine pl_ HT_ 12 4 tb13_1fff_14 ?_
  refine done_ (done_of HT_.out (by kernel_rfl)) ?_
  try go_wp2
  go_ret
  exact ⟨by simp [hq], bl_⟩
def opRows_index.f (l0 : List S74) (a1 : ByteArray) (a2 : ByteArray) : Option (Int) := if 2 ≤ a2.size then some (opRows_index.idxF (fun x => x.f0.toList == a1.toList && x.f1.toList == (a2.extract 0 2).toList) l0) else none
theorem opRows_index.calls (A0 : Option Addr) (c0 : Nat) (l0 : List S74) (a1 : ByteArray) (a2 : ByteArray) (r : Int) (B1 B2 : Nat) (v1 : Value) (w : World) (hr0 : Kd.C k74 w A0 l0.length l0) (hc0 : l0.length ≤ c0) (h1 : w.heap[B1]? = some (.cells #[.string a1, v1] 32 (0, 0))) (h2 : w.heap[B2]? = some (.cells #[.string a2] 9 (0, 0))) (h : opRows_index.f l0 a1 a2 = some r) :
  Calls Tryz.prog 49 #[.slice A0 l0.length c0, .func (.func 51) #[] #[.pointer (some ⟨B1, 0, none⟩), .pointer (some ⟨B2, 0, none⟩)]] w fun e w' => e = .returned (.int .i64 r) ∧ Below w.heap.size w w' := by
 unfold opRows_index.f at h
 split at h
 case isFalse => cases h
 case isTrue hl =>
 obtain rfl := Option.some.inj h
 exact opRows_index.idx A0 c0 l0 51 #[.pointer (some ⟨B1, 0, none⟩), .pointer (some ⟨B2, 0, none⟩)] (fun x => x.f0.toList == a1.toList && x.f1.toList == (a2.extract 0 2).toList) w hr0 hc0 (fun _ _ => by kernel_rfl) (fun W x A3 c3 hb => opRows_index.clo x A3 c3 a1 a2 hl B1 B2 v1 W ((hb.block _ (blk_lt h1)).trans h1) ((hb.block _ (blk_lt h2)).trans h2))
/-! ### impl_ReqOf: function 11 -/
def impl_ReqOf.l0 : Nat → List Int → Int → Int → ByteArray → List (S91) → Int → ByteArray → ByteArray → ByteArray → ByteArray → ByteArray → Int → Int → Option (Int × ByteArray × ByteArray × ByteArray × ByteArray × ByteArray × Int × Int × Int)
 | 0, _, _, _, _, _, _, _, _, _, _, _, _, _ => none
 | k + 1, x41, x42, x43, x305000, x305001, x312000, x312001, x312002, x312003, x312004, x312005, x312006, x312007 => if x43 < x42 then (if 0 ≤ x43 then (if x43 < (x41.length : Int) then ((impl_FieldOf.f k x305000 x305001 (rd x41 x43)).bind fun bt330 => (if bt330.2 = true then (if (rd x41 x43) = 2 then (impl_ReqOf.l0 k x41 x42 (wrap64 (x43 + 1)) x305000 x305001 x312000 bt330.1 x312002 x312003 x312004 x312005 x312006 x312007) else (if (rd x41 x43) = 4 then ((impl_Narrow.f k bt330.1).bind fun bt332 => (impl_ReqOf.l0 k x41 x42 (wrap64 (x43 + 1)) x305000 x305001 x312000 x312001 x312002 x312003 x312004 x312005 bt332.1 x312007)) else (if (rd x41 x43) = 11 then (impl_ReqOf.l0 k x41 x42 (wrap64 (x43 + 1)) x305000 x305001 x312000 x312001 x312002 x312003 bt330.1 x312005 x312006 x312007) else (if (rd x41 x43) = 14 then ((impl_Narrow.f k bt330.1).bind fun bt334 => (impl_ReqOf.l0 k x41 x42 (wrap64 (x43 + 1)) x305000 x305001 x312000 x312001 x312002 x312003 x312004 x312005 x312006 bt334.1)) else (if (rd x41 x43) = 38 then ((impl_FieldBare.f bt330.1).bind fun t336 => (impl_ReqOf.l0 k x41 x42 (wrap64 (x43 + 1)) x305000 x305001 x312000 x312001 x312002 t336 x312004 x312005 x312006 x312007)) else (if (rd x41 x43) = 103 then (impl_ReqOf.l0 k x41 x42 (wrap64 (x43 + 1)) x305000 x305001 x312000 x312001 bt330.1 x312003 x312004 x312005 x312006 x312007) else (impl_ReqOf.l0 k x41 x42 (wrap64 (x43 + 1)) x305000 x305001 x312000 x312001 x312002 x312003 x312004 x312005 x312006 x312007))))))) else (some (0, (⟨#[]⟩ : ByteArray), (⟨#[]⟩ : ByteArray), (⟨#[]⟩ : ByteArray), (⟨#[]⟩ : ByteArray), (⟨#[]⟩ : ByteArray), 0, 0, 1)))) else (none)) else (none)) else ((impl_ReqOk.f k x312000 x312001 x312002 x312003 x312004 x312005 x312006 x312007).bind fun t328 => (if t328 = true then (some (x312000, x312001, x312002, x312003, x312004, x312005, x312006, x312007, 0)) else (some (0, (⟨#[]⟩ : ByteArray), (⟨#[]⟩ : ByteArray), (⟨#[]⟩ : ByteArray), (⟨#[]⟩ : ByteArray), (⟨#[]⟩ : ByteArray), 0, 0, 1))))
def impl_ReqOf.f (k : Nat) (a0_0 : ByteArray) (l0_1 : List (S91)) : Option (Int × ByteArray × ByteArray × ByteArray × ByteArray × ByteArray × Int × Int × Int) := (impl_MsgOk.f k a0_0 l0_1).bind fun t306 => (if t306 = true then ((impl_MtiKnown.f a0_0).bind fun t307 => (if t307 = true then ((impl_FieldOf.f k a0_0 l0_1 3).bind fun bt308 => (if bt308.2 = true then ((impl_opRows.f).bind fun t312 => ((opRows_index.f t312 a0_0 bt308.1).bind fun t315 => ((some (([2, 11] : List Int) : List Int)).bind fun y316 => ((impl_opOf.f (wrap64 (1 + t315))).bind fun bt319 => (if y316.length + bt319.2.2.2.length < 17592186044416 then ((some (y316 ++ bt319.2.2.2 : List Int)).bind fun y325 => (impl_ReqOf.l0 k y325 (y325.length : Int) 0 a0_0 l0_1 (wrap64 (1 + t315)) (⟨#[]⟩ : ByteArray) (⟨#[]⟩ : ByteArray) (⟨#[]⟩ : ByteArray) (⟨#[]⟩ : ByteArray) a0_0 0 0)) else (none)))))) else (some (0, (⟨#[]⟩ : ByteArray), (⟨#[]⟩ : ByteArray), (⟨#[]⟩ : ByteArray), (⟨#[]⟩ : ByteArray), (⟨#[]⟩ : ByteArray), 0, 0, 1)))) else (some (0, (⟨#[]⟩ : ByteArray), (⟨#[]⟩ : ByteArray), (⟨#[]⟩ : ByteArray), (⟨#[]⟩ : ByteArray), (⟨#[]⟩ : ByteArray), 0, 0, 2)))) else (some (0, (⟨#[]⟩ : ByteArray), (⟨#[]⟩ : ByteArray), (⟨#[]⟩ : ByteArray), (⟨#[]⟩ : ByteArray), (⟨#[]⟩ : ByteArray), 0, 0, 1)))
set_option maxHeartbeats 8000000 in
set_option maxRecDepth 100000 in
theorem impl_ReqOf.calls (k : Nat) (a0_0 : ByteArray) (A0_1 : Option Addr) (c0_1 : Nat) (l0_1 : List (S91)) (r1 : Int) (r2 : ByteArray) (r3 : ByteArray) (r4 : ByteArray) (r5 : ByteArray) (r6 : ByteArray) (r7 : Int) (r8 : Int) (r9 : Int) (w : World) (hr0_1 : Kd.C k91 w A0_1 l0_1.length l0_1) (hc0_1 : l0_1.length ≤ c0_1) (h : impl_ReqOf.f k a0_0 l0_1 = some (r1, r2, r3, r4, r5, r6, r7, r8, r9)) :
  Calls Tryz.prog 11 #[.agg #[.string a0_0, .slice A0_1 l0_1.length c0_1]] w fun e w' => e = .returned (.tuple #[.agg #[.int .i64 r1, .string r2, .string r3, .string r4, .string r5, .string r6, .int .i64 r7, .int .i64 r8], .int .i64 r9]) ∧ Below w.heap.size w w' := by
 have hu32 := Tryz.underlying32
 have hu27 := Tryz.underlying27
 have hu9 := Tryz.underlying9
 have hfl74_3 : ∀ (x0_ x1_ x2_ x3_ : Value) (w : World), (Instr.field 74 (.agg #[x0_, x1_, x2_, x3_]) 3).run Tryz.prog w = .ok x3_ w := by intros; kernel_rfl
 have HR0_1 := Aside0.mk hr0_1
 have HC0_1 := Aside0.mk hc0_1
 clear hr0_1 hc0_1
 have HB := Aside0.mk (Below.refl w.heap.size w)
 have H : ((impl_MsgOk.f k a0_0 l0_1).bind fun t306 => (if t306 = true then ((impl_MtiKnown.f a0_0).bind fun t307 => (if t307 = true then ((impl_FieldOf.f k a0_0 l0_1 3).bind fun bt308 => (if bt308.2 = true then ((impl_opRows.f).bind fun t312 => ((opRows_index.f t312 a0_0 bt308.1).bind fun t315 => ((some (([2, 11] : List Int) : List Int)).bind fun y316 => ((impl_opOf.f (wrap64 (1 + t315))).bind fun bt319 => (if y316.length + bt319.2.2.2.length < 17592186044416 then ((some (y316 ++ bt319.2.2.2 : List Int)).bind fun y325 => (impl_ReqOf.l0 k y325 (y325.length : Int) 0 a0_0 l0_1 (wrap64 (1 + t315)) (⟨#[]⟩ : ByteArray) (⟨#[]⟩ : ByteArray) (⟨#[]⟩ : ByteArray) (⟨#[]⟩ : ByteArray) a0_0 0 0)) else (none)))))) else (some (0, (⟨#[]⟩ : ByteArray), (⟨#[]⟩ : ByteArray), (⟨#[]⟩ : ByteArray), (⟨#[]⟩ : ByteArray), (⟨#[]⟩ : ByteArray), 0, 0, 1)))) else (some (0, (⟨#[]⟩ : ByteArray), (⟨#[]⟩ : ByteArray), (⟨#[]⟩ : ByteArray), (⟨#[]⟩ : ByteArray), (⟨#[]⟩ : ByteArray), 0, 0, 2)))) else (some (0, (⟨#[]⟩ : ByteArray), (⟨#[]⟩ : ByteArray), (⟨#[]⟩ : ByteArray), (⟨#[]⟩ : ByteArray), (⟨#[]⟩ : ByteArray), 0, 0, 1)))) = some (r1, r2, r3, r4, r5, r6, r7, r8, r9) := h
 clear h
 obtain ⟨t306, A2, H⟩ := ob_ H
 by_cases c3 : t306 = true
 ·subst c3
  replace H := ip_ H
  obtain ⟨t307, A4, H⟩ := ob_ H
  by_cases c5 : t307 = true
  ·subst c5
   replace H := ip_ H
   obtain ⟨⟨t308, t309⟩, A6, H⟩ := ob_ H
   (try dsimp only at H)
   by_cases c7 : t309 = true
   ·subst c7
    replace H := ip_ H
    obtain ⟨t312, A8, H⟩ := ob_ H
    obtain ⟨t315, A9, H⟩ := ob_ H
    obtain ⟨y316, hy316⟩ : ∃ y_ : List Int, y_ = (([2, 11] : List Int)) := ⟨_, rfl⟩
    replace H : ((impl_opOf.f (wrap64 (1 + t315))).bind fun bt319 => (if y316.length + bt319.2.2.2.length < 17592186044416 then ((some (y316 ++ bt319.2.2.2 : List Int)).bind fun y325 => (impl_ReqOf.l0 k y325 (y325.length : Int) 0 a0_0 l0_1 (wrap64 (1 + t315)) (⟨#[]⟩ : ByteArray) (⟨#[]⟩ : ByteArray) (⟨#[]⟩ : ByteArray) (⟨#[]⟩ : ByteArray) a0_0 0 0)) else (none))) = some (r1, r2, r3, r4, r5, r6, r7, r8, r9) := by first | (rw [hy316]; with_reducible exact H) | (have H2_ := (Option.bind_some _ _).symm.trans H; rw [hy316]; with_reducible exact H2_) | (have H2_ := (Option.bind_some _ _).symm.trans H; with_reducible exact H2_) | with_reducible exact H | (rw [hy316]; exact H) | exact H
    have Ny316 := Aside0.mk hy316
    clear hy316
    obtain ⟨⟨t319, t320, t321, t322⟩, A10, H⟩ := ob_ H
    (try dsimp only at H)
    by_cases c11 : y316.length + t322.length < 17592186044416
    ·rw [if_pos c11] at H
     have LMc11 := Aside0.mk c11
     clear c11
     obtain ⟨y325, hy325⟩ : ∃ y_ : List Int, y_ = (y316 ++ t322) := ⟨_, rfl⟩
     replace H : (impl_ReqOf.l0 k y325 (y325.length : Int) 0 a0_0 l0_1 (wrap64 (1 + t315)) (⟨#[]⟩ : ByteArray) (⟨#[]⟩ : ByteArray) (⟨#[]⟩ : ByteArray) (⟨#[]⟩ : ByteArray) a0_0 0 0) = some (r1, r2, r3, r4, r5, r6, r7, r8, r9) := by first | (rw [hy325]; with_reducible exact H) | (have H2_ := (Option.bind_some _ _).symm.trans H; rw [hy325]; with_reducible exact H2_) | (have H2_ := (Option.bind_some _ _).symm.trans H; with_reducible exact H2_) | with_reducible exact H | (rw [hy325]; exact H) | exact H
     have Ny325 := Aside0.mk hy325
     clear hy325
     have H' := Aside0.mk H
     clear H
     go_enter Tryz.func11, Tryz.ntmps11
     go_wp2_with (first | ((with_reducible refine gate_dst (N := 1) rfl ?_); refine be_ (N := 1) (cs := #[.string a0_0, .slice A0_1 l0_1.length c0_1]) (t := 32) ?_; intro gb304 hg w12 hbox hb; have BK304 := Aside0.mk (hbox); have GW304 := gw_ (w := w) hg; have GE304 := gw_ (w := w) hg; replace HB := Aside0.mk (below_step bl_ hb); clear hb hbox hg) | ((with_reducible refine gate_dst (N := 2) rfl ?_); refine be_ (N := 2) (cs := #[.int .i64 0, .string (⟨#[]⟩ : ByteArray), .string (⟨#[]⟩ : ByteArray), .string (⟨#[]⟩ : ByteArray), .string (⟨#[]⟩ : ByteArray), .string (⟨#[]⟩ : ByteArray), .int .i64 0, .int .i64 0]) (t := 27) ?_; intro gb305 hg w13 hbox hb; have BK305 := Aside0.mk (hbox); have GW305 := gw_ (w := w) hg; have GE305 := gw_ (w := w) hg; replace HB := Aside0.mk (below_step bl_ hb); have NB304_305 := Aside0.mk ((by rw [hg]; exact Nat.ne_of_lt (blk_lt (bk_ BK304)) : gb304 ≠ gb305)); have NB305_304 := Aside0.mk ((by rw [hg]; exact Nat.ne_of_gt (blk_lt (bk_ BK304)) : gb305 ≠ gb304)); replace BK304 := Aside0.mk (blk_below (bk_ BK304) hb); clear hb hbox hg; have hnb14 := NB304_305.out; have hnc14 := NB305_304.out; obtain ⟨hcz15_0, hcz15_1, hfz15_0, hfz15_1⟩ := bx2_ BK304) | ((with_reducible refine gate_callee (f := 46) rfl ?_); refine goesL_ (some 12) rfl rfl Tryz.func46 (by kernel_rfl) rfl #[.agg #[.string a0_0, .slice A0_1 l0_1.length c0_1]] rfl gl_ ?_; (with_reducible refine (impl_MsgOk.calls k a0_0 _ _ l0_1 true _ ?side1 ?side2 A2.out).mono ?_); (case side1 => exact ca_ (Kd.C_below HR0_1.out HB.out)); (case side2 => exact HC0_1.out); rintro e w16 ⟨rfl, hb⟩; refine ⟨_, rfl, ?_⟩; replace BK304 := Aside0.mk (blk_below (bk_ BK304) hb); replace BK305 := Aside0.mk (blk_below (bk_ BK305) hb); replace HB := Aside0.mk (below_step bl_ hb); (try clear hb); (try clear hb2); (try clear hk); (try clear hi); obtain ⟨hcz17_0, hcz17_1, hfz17_0, hfz17_1⟩ := bx2_ BK304) | ((with_reducible refine gate_callee (f := 47) rfl ?_); refine goesL_ (some 17) rfl rfl Tryz.func47 (by kernel_rfl) rfl #[.string a0_0] rfl gl_ ?_; (with_reducible refine (impl_MtiKnown.calls a0_0 true _ A4.out).mono ?_); rintro e w' ⟨rfl, ⟨nd, rfl⟩⟩; refine ⟨_, rfl, ?_⟩; (try (rw [drewN_self w16]; generalize hq_ : World.drewN w16 _ = w16; have n0_ : Aside0 (w16.heap[gb304]? = some (.cells #[.string a0_0, .slice A0_1 l0_1.length c0_1] 32 (0, 0))) := ⟨by rw [← hq_]; exact (by (with_reducible repeat (first | refine blk_drewN ?_ _ | refine blk_drew ?_ | refine blk_alloc ?_ _)); exact BK304.out)⟩; have n1_ : Aside0 (w16.heap[gb305]? = some (.cells #[.int .i64 0, .string (⟨#[]⟩ : ByteArray), .string (⟨#[]⟩ : ByteArray), .string (⟨#[]⟩ : ByteArray), .string (⟨#[]⟩ : ByteArray), .string (⟨#[]⟩ : ByteArray), .int .i64 0, .int .i64 0] 27 (0, 0))) := ⟨by rw [← hq_]; exact (by (with_reducible repeat (first | refine blk_drewN ?_ _ | refine blk_drew ?_ | refine blk_alloc ?_ _)); exact BK305.out)⟩; have n2_ : Aside0 (Below w.heap.size w w16) := ⟨by rw [← hq_]; exact bl_⟩; clear BK304 BK305 HB hq_; have BK304 := n0_; have BK305 := n1_; have HB := n2_; clear n0_ n1_ n2_)); obtain ⟨hcz18_0, hcz18_1, hfz18_0, hfz18_1⟩ := bx2_ BK304) | ((with_reducible refine gate_callee (f := 48) rfl ?_); refine goesL_ (some 22) rfl rfl Tryz.func48 (by kernel_rfl) rfl #[.agg #[.string a0_0, .slice A0_1 l0_1.length c0_1], .int .i64 3] rfl gl_ ?_; (with_reducible refine (impl_FieldOf.calls k a0_0 _ _ l0_1 3 t308 true _ ?side1 ?side2 A6.out).mono ?_); (case side1 => exact ca_ (Kd.C_below HR0_1.out HB.out)); (case side2 => exact HC0_1.out); rintro e w19 ⟨rfl, hb⟩; refine ⟨_, rfl, ?_⟩; replace BK304 := Aside0.mk (blk_below (bk_ BK304) hb); replace BK305 := Aside0.mk (blk_below (bk_ BK305) hb); replace HB := Aside0.mk (below_step bl_ hb); (try clear hb); (try clear hb2); (try clear hk); (try clear hi)) | ((with_reducible refine gate_dst (N := 4) rfl ?_); refine be_ (N := 4) (cs := #[.string (⟨#[]⟩ : ByteArray)]) (t := 9) ?_; intro gb310 hg w20 hbox hb; have BK310 := Aside0.mk (hbox); have GW310 := gw_ (w := w) hg; have GE310 := gw_ (w := w) hg; replace HB := Aside0.mk (below_step bl_ hb); have NB304_310 := Aside0.mk ((by rw [hg]; exact Nat.ne_of_lt (blk_lt (bk_ BK304)) : gb304 ≠ gb310)); have NB310_304 := Aside0.mk ((by rw [hg]; exact Nat.ne_of_gt (blk_lt (bk_ BK304)) : gb310 ≠ gb304)); replace BK304 := Aside0.mk (blk_below (bk_ BK304) hb); have NB305_310 := Aside0.mk ((by rw [hg]; exact Nat.ne_of_lt (blk_lt (bk_ BK305)) : gb305 ≠ gb310)); have NB310_305 := Aside0.mk ((by rw [hg]; exact Nat.ne_of_gt (blk_lt (bk_ BK305)) : gb310 ≠ gb305)); replace BK305 := Aside0.mk (blk_below (bk_ BK305) hb); clear hb hbox hg; have hnb21 := NB310_304.out; have hnc21 := NB304_310.out; have hnb22 := NB310_305.out; have hnc22 := NB305_310.out; have hcz23_0 := cz_ BK310 0 (.string (⟨#[]⟩ : ByteArray)); have hfz23_0 := fz_ BK310 0; obtain ⟨hcz24_0, hcz24_1, hfz24_0, hfz24_1⟩ := bx2_ BK304) | ((with_reducible refine gate_dst (N := 6) rfl ?_); refine be_ (N := 6) (cs := #[.int .i64 0, .string (⟨#[]⟩ : ByteArray), .string (⟨#[]⟩ : ByteArray), .string (⟨#[]⟩ : ByteArray), .string (⟨#[]⟩ : ByteArray), .string (⟨#[]⟩ : ByteArray), .int .i64 0, .int .i64 0]) (t := 27) ?_; intro gb311 hg w25 hbox hb; have BK311 := Aside0.mk (hbox); have GW311 := gw_ (w := w) hg; have GE311 := gw_ (w := w) hg; replace HB := Aside0.mk (below_step bl_ hb); have NB304_311 := Aside0.mk ((by rw [hg]; exact Nat.ne_of_lt (blk_lt (g := gb304) (o := .cells #[.string a0_0, .slice A0_1 l0_1.length c0_1] 32 (0, 0)) (by (with_reducible repeat (first | refine blk_drewN ?_ _ | refine blk_drew ?_ | refine blk_alloc ?_ _)); refine blk_far ?_ NB304_310.out _; (with_reducible repeat (first | refine blk_drewN ?_ _ | refine blk_drew ?_ | refine blk_alloc ?_ _)); exact BK304.out)) : gb304 ≠ gb311)); have NB311_304 := Aside0.mk ((by rw [hg]; exact Nat.ne_of_gt (blk_lt (g := gb304) (o := .cells #[.string a0_0, .slice A0_1 l0_1.length c0_1] 32 (0, 0)) (by (with_reducible repeat (first | refine blk_drewN ?_ _ | refine blk_drew ?_ | refine blk_alloc ?_ _)); refine blk_far ?_ NB304_310.out _; (with_reducible repeat (first | refine blk_drewN ?_ _ | refine blk_drew ?_ | refine blk_alloc ?_ _)); exact BK304.out)) : gb311 ≠ gb304)); replace BK304 := Aside0.mk (blk_below (g := gb304) (o := .cells #[.string a0_0, .slice A0_1 l0_1.length c0_1] 32 (0, 0)) (by (with_reducible repeat (first | refine blk_drewN ?_ _ | refine blk_drew ?_ | refine blk_alloc ?_ _)); refine blk_far ?_ NB304_310.out _; (with_reducible repeat (first | refine blk_drewN ?_ _ | refine blk_drew ?_ | refine blk_alloc ?_ _)); exact BK304.out) hb); have NB305_311 := Aside0.mk ((by rw [hg]; exact Nat.ne_of_lt (blk_lt (g := gb305) (o := .cells #[.int .i64 0, .string (⟨#[]⟩ : ByteArray), .string (⟨#[]⟩ : ByteArray), .string (⟨#[]⟩ : ByteArray), .string (⟨#[]⟩ : ByteArray), .string (⟨#[]⟩ : ByteArray), .int .i64 0, .int .i64 0] 27 (0, 0)) (by (with_reducible repeat (first | refine blk_drewN ?_ _ | refine blk_drew ?_ | refine blk_alloc ?_ _)); refine blk_far ?_ NB305_310.out _; (with_reducible repeat (first | refine blk_drewN ?_ _ | refine blk_drew ?_ | refine blk_alloc ?_ _)); exact BK305.out)) : gb305 ≠ gb311)); have NB311_305 := Aside0.mk ((by rw [hg]; exact Nat.ne_of_gt (blk_lt (g := gb305) (o := .cells #[.int .i64 0, .string (⟨#[]⟩ : ByteArray), .string (⟨#[]⟩ : ByteArray), .string (⟨#[]⟩ : ByteArray), .string (⟨#[]⟩ : ByteArray), .string (⟨#[]⟩ : ByteArray), .int .i64 0, .int .i64 0] 27 (0, 0)) (by (with_reducible repeat (first | refine blk_drewN ?_ _ | refine blk_drew ?_ | refine blk_alloc ?_ _)); refine blk_far ?_ NB305_310.out _; (with_reducible repeat (first | refine blk_drewN ?_ _ | refine blk_drew ?_ | refine blk_alloc ?_ _)); exact BK305.out)) : gb311 ≠ gb305)); replace BK305 := Aside0.mk (blk_below (g := gb305) (o := .cells #[.int .i64 0, .string (⟨#[]⟩ : ByteArray), .string (⟨#[]⟩ : ByteArray), .string (⟨#[]⟩ : ByteArray), .string (⟨#[]⟩ : ByteArray), .string (⟨#[]⟩ : ByteArray), .int .i64 0, .int .i64 0] 27 (0, 0)) (by (with_reducible repeat (first | refine blk_drewN ?_ _ | refine blk_drew ?_ | refine blk_alloc ?_ _)); refine blk_far ?_ NB305_310.out _; (with_reducible repeat (first | refine blk_drewN ?_ _ | refine blk_drew ?_ | refine blk_alloc ?_ _)); exact BK305.out) hb); have NB310_311 := Aside0.mk ((by rw [hg]; exact Nat.ne_of_lt (blk_lt (g := gb310) (o := .cells #[.string t308] 9 (0, 0)) (by (with_reducible repeat (first | refine blk_drewN ?_ _ | refine blk_drew ?_ | refine blk_alloc ?_ _)); apply bq1_0_; (with_reducible repeat (first | refine blk_drewN ?_ _ | refine blk_drew ?_ | refine blk_alloc ?_ _)); exact BK310.out)) : gb310 ≠ gb311)); have NB311_310 := Aside0.mk ((by rw [hg]; exact Nat.ne_of_gt (blk_lt (g := gb310) (o := .cells #[.string t308] 9 (0, 0)) (by (with_reducible repeat (first | refine blk_drewN ?_ _ | refine blk_drew ?_ | refine blk_alloc ?_ _)); apply bq1_0_; (with_reducible repeat (first | refine blk_drewN ?_ _ | refine blk_drew ?_ | refine blk_alloc ?_ _)); exact BK310.out)) : gb311 ≠ gb310)); replace BK310 := Aside0.mk (blk_below (g := gb310) (o := .cells #[.string t308] 9 (0, 0)) (by (with_reducible repeat (first | refine blk_drewN ?_ _ | refine blk_drew ?_ | refine blk_alloc ?_ _)); apply bq1_0_; (with_reducible repeat (first | refine blk_drewN ?_ _ | refine blk_drew ?_ | refine blk_alloc ?_ _)); exact BK310.out) hb); clear hb hbox hg; have hnb26 := NB311_304.out; have hnc26 := NB304_311.out; have hnb27 := NB311_305.out; have hnc27 := NB305_311.out; have hnb28 := NB311_310.out; have hnc28 := NB310_311.out; obtain ⟨hcz29_0, hcz29_1, hcz29_2, hcz29_3, hcz29_4, hcz29_5, hcz29_6, hcz29_7, hfz29_0, hfz29_1, hfz29_2, hfz29_3, hfz29_4, hfz29_5, hfz29_6, hfz29_7⟩ := bx8_ BK311) | ((with_reducible refine gate_callee (f := 50) rfl ?_); refine goesL_ (some 31) rfl rfl Tryz.func50 (by kernel_rfl) rfl #[] rfl gl_ ?_; (with_reducible refine (impl_opRows.calls  t312 _ A8.out).mono ?_); rintro e w30 ⟨v313, rfl, ho0, hb⟩; refine ⟨_, rfl, ?_⟩; have HO314 := Aside0.mk (Kd.N_lower (Kd.N_mono (ok' := fun k_ => k_ ≠ gb304 ∧ k_ ≠ gb305 ∧ k_ ≠ gb310 ∧ k_ ≠ gb311) ho0 (fun k_ hk_ => ⟨(Kd.freshB (g := gb304) (o := .cells #[.string a0_0, .slice A0_1 l0_1.length c0_1] 32 (0, 0)) (by (with_reducible repeat (first | refine blk_drewN ?_ _ | refine blk_drew ?_ | refine blk_alloc ?_ _)); refine blk_far ?_ NB304_311.out _; (with_reducible repeat (first | refine blk_drewN ?_ _ | refine blk_drew ?_ | refine blk_alloc ?_ _)); refine blk_far ?_ NB304_311.out _; (with_reducible repeat (first | refine blk_drewN ?_ _ | refine blk_drew ?_ | refine blk_alloc ?_ _)); refine blk_far ?_ NB304_311.out _; (with_reducible repeat (first | refine blk_drewN ?_ _ | refine blk_drew ?_ | refine blk_alloc ?_ _)); refine blk_far ?_ NB304_311.out _; (with_reducible repeat (first | refine blk_drewN ?_ _ | refine blk_drew ?_ | refine blk_alloc ?_ _)); refine blk_far ?_ NB304_311.out _; (with_reducible repeat (first | refine blk_drewN ?_ _ | refine blk_drew ?_ | refine blk_alloc ?_ _)); refine blk_far ?_ NB304_311.out _; (with_reducible repeat (first | refine blk_drewN ?_ _ | refine blk_drew ?_ | refine blk_alloc ?_ _)); refine blk_far ?_ NB304_311.out _; (with_reducible repeat (first | refine blk_drewN ?_ _ | refine blk_drew ?_ | refine blk_alloc ?_ _)); refine blk_far ?_ NB304_311.out _; (with_reducible repeat (first | refine blk_drewN ?_ _ | refine blk_drew ?_ | refine blk_alloc ?_ _)); exact BK304.out) k_ hk_), (Kd.freshB (g := gb305) (o := .cells #[.int .i64 0, .string (⟨#[]⟩ : ByteArray), .string (⟨#[]⟩ : ByteArray), .string (⟨#[]⟩ : ByteArray), .string (⟨#[]⟩ : ByteArray), .string (⟨#[]⟩ : ByteArray), .int .i64 0, .int .i64 0] 27 (0, 0)) (by (with_reducible repeat (first | refine blk_drewN ?_ _ | refine blk_drew ?_ | refine blk_alloc ?_ _)); refine blk_far ?_ NB305_311.out _; (with_reducible repeat (first | refine blk_drewN ?_ _ | refine blk_drew ?_ | refine blk_alloc ?_ _)); refine blk_far ?_ NB305_311.out _; (with_reducible repeat (first | refine blk_drewN ?_ _ | refine blk_drew ?_ | refine blk_alloc ?_ _)); refine blk_far ?_ NB305_311.out _; (with_reducible repeat (first | refine blk_drewN ?_ _ | refine blk_drew ?_ | refine blk_alloc ?_ _)); refine blk_far ?_ NB305_311.out _; (with_reducible repeat (first | refine blk_drewN ?_ _ | refine blk_drew ?_ | refine blk_alloc ?_ _)); refine blk_far ?_ NB305_311.out _; (with_reducible repeat (first | refine blk_drewN ?_ _ | refine blk_drew ?_ | refine blk_alloc ?_ _)); refine blk_far ?_ NB305_311.out _; (with_reducible repeat (first | refine blk_drewN ?_ _ | refine blk_drew ?_ | refine blk_alloc ?_ _)); refine blk_far ?_ NB305_311.out _; (with_reducible repeat (first | refine blk_drewN ?_ _ | refine blk_drew ?_ | refine blk_alloc ?_ _)); refine blk_far ?_ NB305_311.out _; (with_reducible repeat (first | refine blk_drewN ?_ _ | refine blk_drew ?_ | refine blk_alloc ?_ _)); exact BK305.out) k_ hk_), (Kd.freshB (g := gb310) (o := .cells #[.string t308] 9 (0, 0)) (by (with_reducible repeat (first | refine blk_drewN ?_ _ | refine blk_drew ?_ | refine blk_alloc ?_ _)); refine blk_far ?_ NB310_311.out _; (with_reducible repeat (first | refine blk_drewN ?_ _ | refine blk_drew ?_ | refine blk_alloc ?_ _)); refine blk_far ?_ NB310_311.out _; (with_reducible repeat (first | refine blk_drewN ?_ _ | refine blk_drew ?_ | refine blk_alloc ?_ _)); refine blk_far ?_ NB310_311.out _; (with_reducible repeat (first | refine blk_drewN ?_ _ | refine blk_drew ?_ | refine blk_alloc ?_ _)); refine blk_far ?_ NB310_311.out _; (with_reducible repeat (first | refine blk_drewN ?_ _ | refine blk_drew ?_ | refine blk_alloc ?_ _)); refine blk_far ?_ NB310_311.out _; (with_reducible repeat (first | refine blk_drewN ?_ _ | refine blk_drew ?_ | refine blk_alloc ?_ _)); refine blk_far ?_ NB310_311.out _; (with_reducible repeat (first | refine blk_drewN ?_ _ | refine blk_drew ?_ | refine blk_alloc ?_ _)); refine blk_far ?_ NB310_311.out _; (with_reducible repeat (first | refine blk_drewN ?_ _ | refine blk_drew ?_ | refine blk_alloc ?_ _)); refine blk_far ?_ NB310_311.out _; (with_reducible repeat (first | refine blk_drewN ?_ _ | refine blk_drew ?_ | refine blk_alloc ?_ _)); exact BK310.out) k_ hk_), (Kd.freshB (g := gb311) (o := .cells #[.int .i64 0, .string (⟨#[]⟩ : ByteArray), .string (⟨#[]⟩ : ByteArray), .string (⟨#[]⟩ : ByteArray), .string (⟨#[]⟩ : ByteArray), .string a0_0, .int .i64 0, .int .i64 0] 27 (0, 0)) (by (with_reducible repeat (first | refine blk_drewN ?_ _ | refine blk_drew ?_ | refine blk_alloc ?_ _)); apply bq8_7_6_5_4_3_2_1_0_; (with_reducible repeat (first | refine blk_drewN ?_ _ | refine blk_drew ?_ | refine blk_alloc ?_ _)); exact BK311.out) k_ hk_)⟩)) (below_size bl_)); replace BK304 := Aside0.mk (blk_below (g := gb304) (o := .cells #[.string a0_0, .slice A0_1 l0_1.length c0_1] 32 (0, 0)) (by (with_reducible repeat (first | refine blk_drewN ?_ _ | refine blk_drew ?_ | refine blk_alloc ?_ _)); refine blk_far ?_ NB304_311.out _; (with_reducible repeat (first | refine blk_drewN ?_ _ | refine blk_drew ?_ | refine blk_alloc ?_ _)); refine blk_far ?_ NB304_311.out _; (with_reducible repeat (first | refine blk_drewN ?_ _ | refine blk_drew ?_ | refine blk_alloc ?_ _)); refine blk_far ?_ NB304_311.out _; (with_reducible repeat (first | refine blk_drewN ?_ _ | refine blk_drew ?_ | refine blk_alloc ?_ _)); refine blk_far ?_ NB304_311.out _; (with_reducible repeat (first | refine blk_drewN ?_ _ | refine blk_drew ?_ | refine blk_alloc ?_ _)); refine blk_far ?_ NB304_311.out _; (with_reducible repeat (first | refine blk_drewN ?_ _ | refine blk_drew ?_ | refine blk_alloc ?_ _)); refine blk_far ?_ NB304_311.out _; (with_reducible repeat (first | refine blk_drewN ?_ _ | refine blk_drew ?_ | refine blk_alloc ?_ _)); refine blk_far ?_ NB304_311.out _; (with_reducible repeat (first | refine blk_drewN ?_ _ | refine blk_drew ?_ | refine blk_alloc ?_ _)); refine blk_far ?_ NB304_311.out _; (with_reducible repeat (first | refine blk_drewN ?_ _ | refine blk_drew ?_ | refine blk_alloc ?_ _)); exact BK304.out) hb); replace BK305 := Aside0.mk (blk_below (g := gb305) (o := .cells #[.int .i64 0, .string (⟨#[]⟩ : ByteArray), .string (⟨#[]⟩ : ByteArray), .string (⟨#[]⟩ : ByteArray), .string (⟨#[]⟩ : ByteArray), .string (⟨#[]⟩ : ByteArray), .int .i64 0, .int .i64 0] 27 (0, 0)) (by (with_reducible repeat (first | refine blk_drewN ?_ _ | refine blk_drew ?_ | refine blk_alloc ?_ _)); refine blk_far ?_ NB305_311.out _; (with_reducible repeat (first | refine blk_drewN ?_ _ | refine blk_drew ?_ | refine blk_alloc ?_ _)); refine blk_far ?_ NB305_311.out _; (with_reducible repeat (first | refine blk_drewN ?_ _ | refine blk_drew ?_ | refine blk_alloc ?_ _)); refine blk_far ?_ NB305_311.out _; (with_reducible repeat (first | refine blk_drewN ?_ _ | refine blk_drew ?_ | refine blk_alloc ?_ _)); refine blk_far ?_ NB305_311.out _; (with_reducible repeat (first | refine blk_drewN ?_ _ | refine blk_drew ?_ | refine blk_alloc ?_ _)); refine blk_far ?_ NB305_311.out _; (with_reducible repeat (first | refine blk_drewN ?_ _ | refine blk_drew ?_ | refine blk_alloc ?_ _)); refine blk_far ?_ NB305_311.out _; (with_reducible repeat (first | refine blk_drewN ?_ _ | refine blk_drew ?_ | refine blk_alloc ?_ _)); refine blk_far ?_ NB305_311.out _; (with_reducible repeat (first | refine blk_drewN ?_ _ | refine blk_drew ?_ | refine blk_alloc ?_ _)); refine blk_far ?_ NB305_311.out _; (with_reducible repeat (first | refine blk_drewN ?_ _ | refine blk_drew ?_ | refine blk_alloc ?_ _)); exact BK305.out) hb); replace BK310 := Aside0.mk (blk_below (g := gb310) (o := .cells #[.string t308] 9 (0, 0)) (by (with_reducible repeat (first | refine blk_drewN ?_ _ | refine blk_drew ?_ | refine blk_alloc ?_ _)); refine blk_far ?_ NB310_311.out _; (with_reducible repeat (first | refine blk_drewN ?_ _ | refine blk_drew ?_ | refine blk_alloc ?_ _)); refine blk_far ?_ NB310_311.out _; (with_reducible repeat (first | refine blk_drewN ?_ _ | refine blk_drew ?_ | refine blk_alloc ?_ _)); refine blk_far ?_ NB310_311.out _; (with_reducible repeat (first | refine blk_drewN ?_ _ | refine blk_drew ?_ | refine blk_alloc ?_ _)); refine blk_far ?_ NB310_311.out _; (with_reducible repeat (first | refine blk_drewN ?_ _ | refine blk_drew ?_ | refine blk_alloc ?_ _)); refine blk_far ?_ NB310_311.out _; (with_reducible repeat (first | refine blk_drewN ?_ _ | refine blk_drew ?_ | refine blk_alloc ?_ _)); refine blk_far ?_ NB310_311.out _; (with_reducible repeat (first | refine blk_drewN ?_ _ | refine blk_drew ?_ | refine blk_alloc ?_ _)); refine blk_far ?_ NB310_311.out _; (with_reducible repeat (first | refine blk_drewN ?_ _ | refine blk_drew ?_ | refine blk_alloc ?_ _)); refine blk_far ?_ NB310_311.out _; (with_reducible repeat (first | refine blk_drewN ?_ _ | refine blk_drew ?_ | refine blk_alloc ?_ _)); exact BK310.out) hb); replace BK311 := Aside0.mk (blk_below (g := gb311) (o := .cells #[.int .i64 0, .string (⟨#[]⟩ : ByteArray), .string (⟨#[]⟩ : ByteArray), .string (⟨#[]⟩ : ByteArray), .string (⟨#[]⟩ : ByteArray), .string a0_0, .int .i64 0, .int .i64 0] 27 (0, 0)) (by (with_reducible repeat (first | refine blk_drewN ?_ _ | refine blk_drew ?_ | refine blk_alloc ?_ _)); apply bq8_7_6_5_4_3_2_1_0_; (with_reducible repeat (first | refine blk_drewN ?_ _ | refine blk_drew ?_ | refine blk_alloc ?_ _)); exact BK311.out) hb); replace HB := Aside0.mk (below_step bl_ hb); (try clear hb); (try clear hb2); (try clear hk); (try clear hi); (try clear ho0); obtain ⟨Ao31, co31, eo31⟩ := Kd.N_slice HO314.out; subst eo31) | (go_at_call 49; (with_reducible refine (opRows_index.calls _ _ t312 a0_0 t308 t315 gb304 gb310 (.slice A0_1 l0_1.length c0_1) _ ?side1 ?side2 ?side3 ?side4 A9.out).mono ?_); (case side3 => exact bk_ BK304); (case side4 => exact bk_ BK310); (case side1 => exact ca_ ((Kd.N_reads' HO314.out).2.2)); (case side2 => exact (Kd.N_reads' HO314.out).2.1); rintro e w32 ⟨rfl, hb⟩; replace HO314 := Aside0.mk (Kd.N_below (by (with_reducible repeat (first | apply Kd.N_alloc | apply Kd.N_drewN | apply Kd.N_drew)); exact HO314.out) hb); replace BK304 := Aside0.mk (blk_below (bk_ BK304) hb); replace BK305 := Aside0.mk (blk_below (bk_ BK305) hb); replace BK310 := Aside0.mk (blk_below (bk_ BK310) hb); replace BK311 := Aside0.mk (blk_below (bk_ BK311) hb); replace HB := Aside0.mk (below_step bl_ hb); (try clear hb); (try clear hb2); (try clear hk); (try clear hi); obtain ⟨hcz33_0, hcz33_1, hcz33_2, hcz33_3, hcz33_4, hcz33_5, hcz33_6, hcz33_7, hfz33_0, hfz33_1, hfz33_2, hfz33_3, hfz33_4, hfz33_5, hfz33_6, hfz33_7⟩ := bx8_ BK311) | ((with_reducible refine gate_dst (N := 36) rfl ?_); refine Kd.R_lit (Kd.int .i64) _ 3 ?hg (N := 36) ?hd (xs := ([2, 11] : List Int)) (inner := [.int .i64 2, .int .i64 11]) (ok := fun _ => True) (okp := fun _ => True) ?hr ?hp (fun _ hk => hk) trivial (Below.refl _ _) (Nat.le_refl _) (by simp) ?_; (case hd => rfl); (case hg => rfl); (case hr => first | (go_simp; done) | (go_simp; rfl)); (case hp => exact (Reps.one (show Kd.M (Kd.int .i64) _ _ _ 2 [.int .i64 2] from rfl) (Reps.one (show Kd.M (Kd.int .i64) _ _ _ 11 [.int .i64 11] from rfl) (Reps.none _ _)))); intro v317 w34 ho35 hb hg_ hnew_; clear hg_ hnew_; (first | rw [← Ny316.out] at ho35 | (simp only [Int.reduceToNat] at ho35; rw [← Ny316.out] at ho35)); replace HO314 := Aside0.mk (Kd.N_elder' (by (with_reducible repeat (first | apply Kd.N_alloc | apply Kd.N_drewN | apply Kd.N_drew)); exact (Kd.N_mono (Kd.N_far (p := ⟨gb311, 0, none⟩) (Kd.N_mono HO314.out (fun k_ hk => (⟨hk, hk.2.2.2⟩ : _ ∧ k_ ≠ gb311))) (fun _ hk => hk.2) (.int .i64 (wrap64 (1 + t315)))) (fun _ h_ => h_.1))) (Kd.R_base ho35) hb); have HO318 := Aside0.mk (Kd.R_lower ho35 (below_size bl_)); replace BK304 := Aside0.mk (blk_below (g := gb304) (o := .cells #[.string a0_0, .slice A0_1 l0_1.length c0_1] 32 (0, 0)) (by (with_reducible repeat (first | refine blk_drewN ?_ _ | refine blk_drew ?_ | refine blk_alloc ?_ _)); refine blk_far ?_ NB304_311.out _; (with_reducible repeat (first | refine blk_drewN ?_ _ | refine blk_drew ?_ | refine blk_alloc ?_ _)); exact BK304.out) hb); replace BK305 := Aside0.mk (blk_below (g := gb305) (o := .cells #[.int .i64 0, .string (⟨#[]⟩ : ByteArray), .string (⟨#[]⟩ : ByteArray), .string (⟨#[]⟩ : ByteArray), .string (⟨#[]⟩ : ByteArray), .string (⟨#[]⟩ : ByteArray), .int .i64 0, .int .i64 0] 27 (0, 0)) (by (with_reducible repeat (first | refine blk_drewN ?_ _ | refine blk_drew ?_ | refine blk_alloc ?_ _)); refine blk_far ?_ NB305_311.out _; (with_reducible repeat (first | refine blk_drewN ?_ _ | refine blk_drew ?_ | refine blk_alloc ?_ _)); exact BK305.out) hb); replace BK310 := Aside0.mk (blk_below (g := gb310) (o := .cells #[.string t308] 9 (0, 0)) (by (with_reducible repeat (first | refine blk_drewN ?_ _ | refine blk_drew ?_ | refine blk_alloc ?_ _)); refine blk_far ?_ NB310_311.out _; (with_reducible repeat (first | refine blk_drewN ?_ _ | refine blk_drew ?_ | refine blk_alloc ?_ _)); exact BK310.out) hb); replace BK311 := Aside0.mk (blk_below (g := gb311) (o := .cells #[.int .i64 (wrap64 (1 + t315)), .string (⟨#[]⟩ : ByteArray), .string (⟨#[]⟩ : ByteArray), .string (⟨#[]⟩ : ByteArray), .string (⟨#[]⟩ : ByteArray), .string a0_0, .int .i64 0, .int .i64 0] 27 (0, 0)) (by (with_reducible repeat (first | refine blk_drewN ?_ _ | refine blk_drew ?_ | refine blk_alloc ?_ _)); apply bq8_0_; (with_reducible repeat (first | refine blk_drewN ?_ _ | refine blk_drew ?_ | refine blk_alloc ?_ _)); exact BK311.out) hb); replace HB := Aside0.mk (below_step bl_ hb); clear hb ho35; obtain ⟨hcz36_0, hcz36_1, hcz36_2, hcz36_3, hcz36_4, hcz36_5, hcz36_6, hcz36_7, hfz36_0, hfz36_1, hfz36_2, hfz36_3, hfz36_4, hfz36_5, hfz36_6, hfz36_7⟩ := bx8_ BK311) | ((with_reducible refine gate_callee (f := 52) rfl ?_); refine goesL_ (some 39) rfl rfl Tryz.func52 (by kernel_rfl) rfl #[.int .i64 (wrap64 (1 + t315))] rfl gl_ ?_; (with_reducible refine (impl_opOf.calls (wrap64 (1 + t315)) t319 t320 t321 t322 _ A10.out).mono ?_); rintro e w37 ⟨v323, rfl, ho0, hb⟩; refine ⟨_, rfl, ?_⟩; have HO324 := Aside0.mk (Kd.V_lower (Kd.V_mono (ok' := fun k_ => some k_ ≠ (.slice Ao31 t312.length co31 : Value).ownBlock ∧ some k_ ≠ (v317 : Value).ownBlock ∧ k_ ≠ gb304 ∧ k_ ≠ gb305 ∧ k_ ≠ gb310 ∧ k_ ≠ gb311) ho0 (fun k_ hk_ => ⟨(Kd.fresh' (Kd.N_lt (by (with_reducible repeat (first | apply Kd.N_alloc | apply Kd.N_drewN | apply Kd.N_drew)); exact HO314.out)) k_ hk_), (Kd.fresh' (Kd.R_lt (ra_ HO318)) k_ hk_), (Kd.freshB (bk_ BK304) k_ hk_), (Kd.freshB (bk_ BK305) k_ hk_), (Kd.freshB (bk_ BK310) k_ hk_), (Kd.freshB (bk_ BK311) k_ hk_)⟩)) (below_size bl_)); replace HO314 := Aside0.mk (Kd.N_below (by (with_reducible repeat (first | apply Kd.N_alloc | apply Kd.N_drewN | apply Kd.N_drew)); exact HO314.out) hb); replace HO318 := Aside0.mk (Kd.R_below (ra_ HO318) hb); replace BK304 := Aside0.mk (blk_below (bk_ BK304) hb); replace BK305 := Aside0.mk (blk_below (bk_ BK305) hb); replace BK310 := Aside0.mk (blk_below (bk_ BK310) hb); replace BK311 := Aside0.mk (blk_below (bk_ BK311) hb); replace HB := Aside0.mk (below_step bl_ hb); (try clear hb); (try clear hb2); (try clear hk); (try clear hi); (try clear ho0); obtain ⟨Ao38, co38, eo38⟩ := Kd.V_slice HO324.out; subst eo38) | ((with_reducible refine gate_builtin (b := .append) (xs := #[.tmp 36, .tmp 40]) rfl ?_); at_builtin; refine Kd.R_append_rows (Kd.int .i64) (w0 := w) w.heap.size rfl (.tmp 36) (.tmp 40) 46 3 (.int .i64 0) 8 rfl Tryz.underlying46 info3 rfl (by decide) (by omega) v317 y316 t322 _ _ _ (fun _ => True) (fun _ => False) rfl rfl ?aO ?aR (fun _ _ h => h) (fun _ h => h.elim) ?aF ?aB ?aS ?aL ?_; (case aR => exact ca_ ((Kd.V_reads' HO324.out).2.2)); (case aB => exact bl_); (case aF => exact (fun _ _ => trivial)); (case aO => exact (ra_ HO318)); (case aS => exact (below_size bl_)); (case aL => have := LMc11.out; omega); intro v326 w39 ho hb hg hat; rw [← Ny325.out] at ho; have n0_ := Aside0.mk (blk_grown (bk_ BK304) hg (Kd.R_ne HO318.out BK304.out (by decide))); have n1_ := Aside0.mk (blk_grown (bk_ BK305) hg (Kd.R_ne HO318.out BK305.out (by decide))); have n2_ := Aside0.mk (blk_grown (bk_ BK310) hg (Kd.R_ne HO318.out BK310.out (by decide))); have n3_ := Aside0.mk (blk_grown (bk_ BK311) hg (Kd.R_ne HO318.out BK311.out (by decide))); have n4_ := Aside0.mk (Kd.N_afterv (ok := (fun k_ => k_ ≠ gb304 ∧ k_ ≠ gb305 ∧ k_ ≠ gb310 ∧ k_ ≠ gb311)) (by (with_reducible repeat (first | apply Kd.N_alloc | apply Kd.N_drewN | apply Kd.N_drew)); exact HO314.out) hg hat); have n5_ := Aside0.mk (Kd.V_afterv (ok := (fun k_ => some k_ ≠ (.slice Ao31 t312.length co31 : Value).ownBlock ∧ k_ ≠ gb304 ∧ k_ ≠ gb305 ∧ k_ ≠ gb310 ∧ k_ ≠ gb311)) (by (with_reducible repeat (first | apply Kd.V_alloc | apply Kd.V_drewN | apply Kd.V_drew)); exact Kd.V_mono HO324.out (fun _ hk => ⟨⟨hk.1, ⟨hk.2.2.1, ⟨hk.2.2.2.1, ⟨hk.2.2.2.2.1, hk.2.2.2.2.2⟩⟩⟩⟩, hk.2.1⟩)) hg hat); have n6_ := Aside0.mk (hb); have n7_ := Aside0.mk (ho); clear BK304; clear BK305; clear BK310; clear BK311; clear HO314; clear HO324; clear HB; clear HO318; have BK304 := n0_; have BK305 := n1_; have BK310 := n2_; have BK311 := n3_; have HO314 := n4_; have HO324 := n5_; have HB := n6_; have HO327 := n7_; clear n0_ n1_ n2_ n3_ n4_ n5_ n6_ n7_; clear ho hb hg hat; obtain ⟨Ao40, co40, eo40⟩ := Kd.R_slice HO327.out; subst eo40))
     go_loopg [43] k (fun kq v43 w' => ∃ (x43_1 : Int) (x306000_1 : Int) (x306001_1 : ByteArray) (x306002_1 : ByteArray) (x306003_1 : ByteArray) (x306004_1 : ByteArray) (x306005_1 : ByteArray) (x306006_1 : Int) (x306007_1 : Int) (x312001_1 : ByteArray) (x312002_1 : ByteArray) (x312003_1 : ByteArray) (x312004_1 : ByteArray) (x312006_1 : Int) (x312007_1 : Int), v43 = .int .i64 x43_1 ∧ Aside0 (impl_ReqOf.l0 kq y325 (y325.length : Int) x43_1 a0_0 l0_1 (wrap64 (1 + t315)) x312001_1 x312002_1 x312003_1 x312004_1 a0_0 x312006_1 x312007_1 = some (r1, r2, r3, r4, r5, r6, r7, r8, r9)) ∧ Aside0 (kq ≤ k) ∧ Aside0 (Kd.R (Kd.int .i64) 3 w' w.heap.size (fun _ => True) (.slice Ao40 y325.length co40) y325) ∧ Aside0 (w'.heap[gb304]? = some (.cells #[.string a0_0, (.slice A0_1 l0_1.length c0_1)] 32 (0, 0))) ∧ Aside0 (w'.heap[gb305]? = some (.cells #[.int .i64 x306000_1, .string x306001_1, .string x306002_1, .string x306003_1, .string x306004_1, .string x306005_1, .int .i64 x306006_1, .int .i64 x306007_1] 27 (0, 0))) ∧ Aside0 (w'.heap[gb310]? = some (.cells #[.string t308] 9 (0, 0))) ∧ Aside0 (w'.heap[gb311]? = some (.cells #[.int .i64 (wrap64 (1 + t315)), .string x312001_1, .string x312002_1, .string x312003_1, .string x312004_1, .string a0_0, .int .i64 x312006_1, .int .i64 x312007_1] 27 (0, 0))) ∧ Aside0 (Below w.heap.size w w'))
     case atStart => exact ⟨(0), (0), ((⟨#[]⟩ : ByteArray)), ((⟨#[]⟩ : ByteArray)), ((⟨#[]⟩ : ByteArray)), ((⟨#[]⟩ : ByteArray)), ((⟨#[]⟩ : ByteArray)), (0), (0), ((⟨#[]⟩ : ByteArray)), ((⟨#[]⟩ : ByteArray)), ((⟨#[]⟩ : ByteArray)), ((⟨#[]⟩ : ByteArray)), (0), (0), sp_, H', ⟨Nat.le_refl _⟩, ⟨ra_ HO327⟩, ⟨by (with_reducible repeat (first | refine blk_drewN ?_ _ | refine blk_drew ?_ | refine blk_alloc ?_ _)); exact BK304.out⟩, ⟨by (with_reducible repeat (first | refine blk_drewN ?_ _ | refine blk_drew ?_ | refine blk_alloc ?_ _)); exact BK305.out⟩, ⟨by (with_reducible repeat (first | refine blk_drewN ?_ _ | refine blk_drew ?_ | refine blk_alloc ?_ _)); exact BK310.out⟩, ⟨by (with_reducible repeat (first | refine blk_drewN ?_ _ | refine blk_drew ?_ | refine blk_alloc ?_ _)); exact BK311.out⟩, ⟨bl_⟩⟩
     case round =>
      clear H'
      try clear c1
      try clear c2
      try clear p2
      try clear c3
      try clear c4
      try clear c5
      try clear p6
      try clear c7
      try clear c8
      try clear c11
      try clear c14
      try clear c21
      try clear c22
      try clear c26
      try clear c27
      try clear c28
      try clear hcz15_0
      try clear hcz15_1
      try clear hcz17_0
      try clear hcz17_1
      try clear hcz18_0
      try clear hcz18_1
      try clear hcz23_0
      try clear hcz24_0
      try clear hcz24_1
      try clear hcz29_0
      try clear hcz29_1
      try clear hcz29_2
      try clear hcz29_3
      try clear hcz29_4
      try clear hcz29_5
      try clear hcz29_6
      try clear hcz29_7
      try clear hcz33_0
      try clear hcz33_1
      try clear hcz33_2
      try clear hcz33_3
      try clear hcz33_4
      try clear hcz33_5
      try clear hcz33_6
      try clear hcz33_7
      try clear hcz36_0
      try clear hcz36_1
      try clear hcz36_2
      try clear hcz36_3
      try clear hcz36_4
      try clear hcz36_5
      try clear hcz36_6
      try clear hcz36_7
      try clear hfz15_0
      try clear hfz15_1
      try clear hfz17_0
      try clear hfz17_1
      try clear hfz18_0
      try clear hfz18_1
      try clear hfz23_0
      try clear hfz24_0
      try clear hfz24_1
      try clear hfz29_0
      try clear hfz29_1
      try clear hfz29_2
      try clear hfz29_3
      try clear hfz29_4
      try clear hfz29_5
      try clear hfz29_6
      try clear hfz29_7
      try clear hfz33_0
      try clear hfz33_1
      try clear hfz33_2
      try clear hfz33_3
      try clear hfz33_4
      try clear hfz33_5
      try clear hfz33_6
      try clear hfz33_7
      try clear hfz36_0
      try clear hfz36_1
      try clear hfz36_2
      try clear hfz36_3
      try clear hfz36_4
      try clear hfz36_5
      try clear hfz36_6
      try clear hfz36_7
      obtain ⟨x43_1, x306000_1, x306001_1, x306002_1, x306003_1, x306004_1, x306005_1, x306006_1, x306007_1, x312001_1, x312002_1, x312003_1, x312004_1, x312006_1, x312007_1, rfl, HA, HK1, HO_41, BK304, BK305, BK310, BK311, HB⟩ := hrel
      cases gk with
      | zero => exact absurd HA.out (by simp [impl_ReqOf.l0])
      | succ k1 =>
       have H := HA.out
       clear HA
       simp only [impl_ReqOf.l0] at H
       by_cases c41 : x43_1 < (y325.length : Int)
       ·rw [if_pos c41] at H
        have c41b0 : decide (x43_1 < (y325.length : Int)) = true := decide_eq_true c41
        clear c41
        by_cases c42 : 0 ≤ x43_1
        ·rw [if_pos c42] at H
         have c42b0 : decide (0 ≤ x43_1) = true := decide_eq_true c42
         clear c42
         by_cases c43 : x43_1 < (y325.length : Int)
         ·rw [if_pos c43] at H
          have c43b0 : decide (x43_1 < (y325.length : Int)) = true := decide_eq_true c43
          clear c43
          obtain ⟨⟨t330, t331⟩, A44, H⟩ := ob_ H
          (try dsimp only at H)
          by_cases c45 : t331 = true
          ·subst c45
           replace H := ip_ H
           by_cases c46 : (rd y325 x43_1) = 2
           ·rw [if_pos c46] at H
            have c46b0 : ((rd y325 x43_1) == 2) = true := beq_iff_eq.mpr c46
            have c46b1 : ((rd y325 x43_1) != 2) = false := bne_eq_false_iff_eq.mpr c46
            clear c46
            have H' := Aside0.mk H
            clear H
            have p329 : 0 ≤ (x43_1 : Int) := od_
            have q329 : x43_1 < (y325.length : Int) := od_
            obtain ⟨ad329, e329, hx329_0⟩ := Kd.at_int (Kd.R_reads' HO_41.out).2.2 x43_1 p329 q329
            cases e329
            replace p329 := eq_true p329
            replace q329 := eq_true q329
            have hnb47 := NB304_305.out
            have hnc47 := NB305_304.out
            have hnb48 := NB304_310.out
            have hnc48 := NB310_304.out
            have hnb49 := NB304_311.out
            have hnc49 := NB311_304.out
            have hcz50_0 := cz_ BK304 0 (.string a0_0)
            have hcz50_1 := cz_ BK304 1 (.slice A0_1 l0_1.length c0_1)
            have hfz50_0 := fz_ BK304 0
            have hfz50_1 := fz_ BK304 1
            go_wp2_with (first | ((with_reducible refine gate_callee (f := 48) rfl ?_); refine goesL_ (some 50) rfl rfl Tryz.func48 (by kernel_rfl) rfl #[.agg #[.string a0_0, .slice A0_1 l0_1.length c0_1], .int .i64 (rd y325 x43_1)] rfl gl_ ?_; (with_reducible refine (impl_FieldOf.calls k1 a0_0 _ _ l0_1 (rd y325 x43_1) t330 true _ ?side1 ?side2 A44.out).mono ?_); (case side1 => exact ca_ (Kd.C_below HR0_1.out HB.out)); (case side2 => exact HC0_1.out); rintro e w51 ⟨rfl, hb⟩; refine ⟨_, rfl, ?_⟩; replace HO_41 := Aside0.mk (Kd.R_below (ra_ HO_41) hb); replace BK304 := Aside0.mk (blk_below (bk_ BK304) hb); replace BK305 := Aside0.mk (blk_below (bk_ BK305) hb); replace BK310 := Aside0.mk (blk_below (bk_ BK310) hb); replace BK311 := Aside0.mk (blk_below (bk_ BK311) hb); replace HB := Aside0.mk (below_step bl_ hb); (try clear hb); (try clear hb2); (try clear hk); (try clear hi); have hnb52 := NB311_305.out; have hnc52 := NB305_311.out; have hnb53 := NB311_310.out; have hnc53 := NB310_311.out; obtain ⟨hcz54_0, hcz54_1, hcz54_2, hcz54_3, hcz54_4, hcz54_5, hcz54_6, hcz54_7, hfz54_0, hfz54_1, hfz54_2, hfz54_3, hfz54_4, hfz54_5, hfz54_6, hfz54_7⟩ := bx8_ BK311))
            go_roundg k1
            case measure => have := HK1.out; omega
            case rel => exact ⟨(wrap64 (x43_1 + 1)), (x306000_1), (x306001_1), (x306002_1), (x306003_1), (x306004_1), (x306005_1), (x306006_1), (x306007_1), (t330), (x312002_1), (x312003_1), (x312004_1), (x312006_1), (x312007_1), sp_, H', ⟨by have := HK1.out; omega⟩, ⟨by (with_reducible repeat (first | apply Kd.R_alloc | apply Kd.R_drewN | apply Kd.R_drew)); exact Kd.R_mono (Kd.R_far (p := ⟨gb311, 1, none⟩) (Kd.R_types HO_41.out BK311.out (by decide)) (fun _ hk => hk.2) (.string t330)) (fun _ hk => trivial)⟩, ⟨by (with_reducible repeat (first | refine blk_drewN ?_ _ | refine blk_drew ?_ | refine blk_alloc ?_ _)); refine blk_far ?_ NB304_311.out _; (with_reducible repeat (first | refine blk_drewN ?_ _ | refine blk_drew ?_ | refine blk_alloc ?_ _)); exact BK304.out⟩, ⟨by (with_reducible repeat (first | refine blk_drewN ?_ _ | refine blk_drew ?_ | refine blk_alloc ?_ _)); refine blk_far ?_ NB305_311.out _; (with_reducible repeat (first | refine blk_drewN ?_ _ | refine blk_drew ?_ | refine blk_alloc ?_ _)); exact BK305.out⟩, ⟨by (with_reducible repeat (first | refine blk_drewN ?_ _ | refine blk_drew ?_ | refine blk_alloc ?_ _)); refine blk_far ?_ NB310_311.out _; (with_reducible repeat (first | refine blk_drewN ?_ _ | refine blk_drew ?_ | refine blk_alloc ?_ _)); exact BK310.out⟩, ⟨by (with_reducible repeat (first | refine blk_drewN ?_ _ | refine blk_drew ?_ | refine blk_alloc ?_ _)); apply bq8_1_; (with_reducible repeat (first | refine blk_drewN ?_ _ | refine blk_drew ?_ | refine blk_alloc ?_ _)); exact BK311.out⟩, ⟨bl_⟩⟩
           ·rw [if_neg c46] at H
            have c46b0 : ((rd y325 x43_1) == 2) = false := beq_eq_false_iff_ne.mpr c46
            have c46b1 : ((rd y325 x43_1) != 2) = true := bne_iff_ne.mpr c46
            by_cases c55 : (rd y325 x43_1) = 4
            ·rw [if_pos c55] at H
             have c55b0 : ((rd y325 x43_1) == 4) = true := beq_iff_eq.mpr c55
             have c55b1 : ((rd y325 x43_1) != 4) = false := bne_eq_false_iff_eq.mpr c55
             clear c55
             obtain ⟨⟨t332, t333⟩, A56, H⟩ := ob_ H
             (try dsimp only at H)
             have H' := Aside0.mk H
             clear H
             have p329 : 0 ≤ (x43_1 : Int) := od_
             have q329 : x43_1 < (y325.length : Int) := od_
             obtain ⟨ad329, e329, hx329_0⟩ := Kd.at_int (Kd.R_reads' HO_41.out).2.2 x43_1 p329 q329
             cases e329
             replace p329 := eq_true p329
             replace q329 := eq_true q329
             have hnb57 := NB304_305.out
             have hnc57 := NB305_304.out
             have hnb58 := NB304_310.out
             have hnc58 := NB310_304.out
             have hnb59 := NB304_311.out
             have hnc59 := NB311_304.out
             have hcz60_0 := cz_ BK304 0 (.string a0_0)
             have hcz60_1 := cz_ BK304 1 (.slice A0_1 l0_1.length c0_1)
             have hfz60_0 := fz_ BK304 0
             have hfz60_1 := fz_ BK304 1
             go_wp2_with (first | ((with_reducible refine gate_callee (f := 48) rfl ?_); refine goesL_ (some 50) rfl rfl Tryz.func48 (by kernel_rfl) rfl #[.agg #[.string a0_0, .slice A0_1 l0_1.length c0_1], .int .i64 (rd y325 x43_1)] rfl gl_ ?_; (with_reducible refine (impl_FieldOf.calls k1 a0_0 _ _ l0_1 (rd y325 x43_1) t330 true _ ?side1 ?side2 A44.out).mono ?_); (case side1 => exact ca_ (Kd.C_below HR0_1.out HB.out)); (case side2 => exact HC0_1.out); rintro e w61 ⟨rfl, hb⟩; refine ⟨_, rfl, ?_⟩; replace HO_41 := Aside0.mk (Kd.R_below (ra_ HO_41) hb); replace BK304 := Aside0.mk (blk_below (bk_ BK304) hb); replace BK305 := Aside0.mk (blk_below (bk_ BK305) hb); replace BK310 := Aside0.mk (blk_below (bk_ BK310) hb); replace BK311 := Aside0.mk (blk_below (bk_ BK311) hb); replace HB := Aside0.mk (below_step bl_ hb); (try clear hb); (try clear hb2); (try clear hk); (try clear hi)) | ((with_reducible refine gate_callee (f := 53) rfl ?_); refine goesL_ (some 65) rfl rfl Tryz.func53 (by kernel_rfl) rfl #[.string t330] rfl gl_ ?_; (with_reducible refine (impl_Narrow.calls k1 t330 t332 t333 _ A56.out).mono ?_); rintro e w62 ⟨rfl, hb⟩; refine ⟨_, rfl, ?_⟩; replace HO_41 := Aside0.mk (Kd.R_below (ra_ HO_41) hb); replace BK304 := Aside0.mk (blk_below (bk_ BK304) hb); replace BK305 := Aside0.mk (blk_below (bk_ BK305) hb); replace BK310 := Aside0.mk (blk_below (bk_ BK310) hb); replace BK311 := Aside0.mk (blk_below (bk_ BK311) hb); replace HB := Aside0.mk (below_step bl_ hb); (try clear hb); (try clear hb2); (try clear hk); (try clear hi); have hnb63 := NB311_305.out; have hnc63 := NB305_311.out; have hnb64 := NB311_310.out; have hnc64 := NB310_311.out; obtain ⟨hcz65_0, hcz65_1, hcz65_2, hcz65_3, hcz65_4, hcz65_5, hcz65_6, hcz65_7, hfz65_0, hfz65_1, hfz65_2, hfz65_3, hfz65_4, hfz65_5, hfz65_6, hfz65_7⟩ := bx8_ BK311))
             go_roundg k1
             case measure => have := HK1.out; omega
             case rel => exact ⟨(wrap64 (x43_1 + 1)), (x306000_1), (x306001_1), (x306002_1), (x306003_1), (x306004_1), (x306005_1), (x306006_1), (x306007_1), (x312001_1), (x312002_1), (x312003_1), (x312004_1), (t332), (x312007_1), sp_, H', ⟨by have := HK1.out; omega⟩, ⟨by (with_reducible repeat (first | apply Kd.R_alloc | apply Kd.R_drewN | apply Kd.R_drew)); exact Kd.R_mono (Kd.R_far (p := ⟨gb311, 6, none⟩) (Kd.R_types HO_41.out BK311.out (by decide)) (fun _ hk => hk.2) (.int .i64 t332)) (fun _ hk => trivial)⟩, ⟨by (with_reducible repeat (first | refine blk_drewN ?_ _ | refine blk_drew ?_ | refine blk_alloc ?_ _)); refine blk_far ?_ NB304_311.out _; (with_reducible repeat (first | refine blk_drewN ?_ _ | refine blk_drew ?_ | refine blk_alloc ?_ _)); exact BK304.out⟩, ⟨by (with_reducible repeat (first | refine blk_drewN ?_ _ | refine blk_drew ?_ | refine blk_alloc ?_ _)); refine blk_far ?_ NB305_311.out _; (with_reducible repeat (first | refine blk_drewN ?_ _ | refine blk_drew ?_ | refine blk_alloc ?_ _)); exact BK305.out⟩, ⟨by (with_reducible repeat (first | refine blk_drewN ?_ _ | refine blk_drew ?_ | refine blk_alloc ?_ _)); refine blk_far ?_ NB310_311.out _; (with_reducible repeat (first | refine blk_drewN ?_ _ | refine blk_drew ?_ | refine blk_alloc ?_ _)); exact BK310.out⟩, ⟨by (with_reducible repeat (first | refine blk_drewN ?_ _ | refine blk_drew ?_ | refine blk_alloc ?_ _)); apply bq8_6_; (with_reducible repeat (first | refine blk_drewN ?_ _ | refine blk_drew ?_ | refine blk_alloc ?_ _)); exact BK311.out⟩, ⟨bl_⟩⟩
            ·rw [if_neg c55] at H
             have c55b0 : ((rd y325 x43_1) == 4) = false := beq_eq_false_iff_ne.mpr c55
             have c55b1 : ((rd y325 x43_1) != 4) = true := bne_iff_ne.mpr c55
             by_cases c66 : (rd y325 x43_1) = 11
             ·rw [if_pos c66] at H
              have c66b0 : ((rd y325 x43_1) == 11) = true := beq_iff_eq.mpr c66
              have c66b1 : ((rd y325 x43_1) != 11) = false := bne_eq_false_iff_eq.mpr c66
              clear c66
              have H' := Aside0.mk H
              clear H
              have p329 : 0 ≤ (x43_1 : Int) := od_
              have q329 : x43_1 < (y325.length : Int) := od_
              obtain ⟨ad329, e329, hx329_0⟩ := Kd.at_int (Kd.R_reads' HO_41.out).2.2 x43_1 p329 q329
              cases e329
              replace p329 := eq_true p329
              replace q329 := eq_true q329
              have hnb67 := NB304_305.out
              have hnc67 := NB305_304.out
              have hnb68 := NB304_310.out
              have hnc68 := NB310_304.out
              have hnb69 := NB304_311.out
              have hnc69 := NB311_304.out
              have hcz70_0 := cz_ BK304 0 (.string a0_0)
              have hcz70_1 := cz_ BK304 1 (.slice A0_1 l0_1.length c0_1)
              have hfz70_0 := fz_ BK304 0
              have hfz70_1 := fz_ BK304 1
              go_wp2_with (first | ((with_reducible refine gate_callee (f := 48) rfl ?_); refine goesL_ (some 50) rfl rfl Tryz.func48 (by kernel_rfl) rfl #[.agg #[.string a0_0, .slice A0_1 l0_1.length c0_1], .int .i64 (rd y325 x43_1)] rfl gl_ ?_; (with_reducible refine (impl_FieldOf.calls k1 a0_0 _ _ l0_1 (rd y325 x43_1) t330 true _ ?side1 ?side2 A44.out).mono ?_); (case side1 => exact ca_ (Kd.C_below HR0_1.out HB.out)); (case side2 => exact HC0_1.out); rintro e w71 ⟨rfl, hb⟩; refine ⟨_, rfl, ?_⟩; replace HO_41 := Aside0.mk (Kd.R_below (ra_ HO_41) hb); replace BK304 := Aside0.mk (blk_below (bk_ BK304) hb); replace BK305 := Aside0.mk (blk_below (bk_ BK305) hb); replace BK310 := Aside0.mk (blk_below (bk_ BK310) hb); replace BK311 := Aside0.mk (blk_below (bk_ BK311) hb); replace HB := Aside0.mk (below_step bl_ hb); (try clear hb); (try clear hb2); (try clear hk); (try clear hi); have hnb72 := NB311_305.out; have hnc72 := NB305_311.out; have hnb73 := NB311_310.out; have hnc73 := NB310_311.out; obtain ⟨hcz74_0, hcz74_1, hcz74_2, hcz74_3, hcz74_4, hcz74_5, hcz74_6, hcz74_7, hfz74_0, hfz74_1, hfz74_2, hfz74_3, hfz74_4, hfz74_5, hfz74_6, hfz74_7⟩ := bx8_ BK311))
              go_roundg k1
              case measure => have := HK1.out; omega
              case rel => exact ⟨(wrap64 (x43_1 + 1)), (x306000_1), (x306001_1), (x306002_1), (x306003_1), (x306004_1), (x306005_1), (x306006_1), (x306007_1), (x312001_1), (x312002_1), (x312003_1), (t330), (x312006_1), (x312007_1), sp_, H', ⟨by have := HK1.out; omega⟩, ⟨by (with_reducible repeat (first | apply Kd.R_alloc | apply Kd.R_drewN | apply Kd.R_drew)); exact Kd.R_mono (Kd.R_far (p := ⟨gb311, 4, none⟩) (Kd.R_types HO_41.out BK311.out (by decide)) (fun _ hk => hk.2) (.string t330)) (fun _ hk => trivial)⟩, ⟨by (with_reducible repeat (first | refine blk_drewN ?_ _ | refine blk_drew ?_ | refine blk_alloc ?_ _)); refine blk_far ?_ NB304_311.out _; (with_reducible repeat (first | refine blk_drewN ?_ _ | refine blk_drew ?_ | refine blk_alloc ?_ _)); exact BK304.out⟩, ⟨by (with_reducible repeat (first | refine blk_drewN ?_ _ | refine blk_drew ?_ | refine blk_alloc ?_ _)); refine blk_far ?_ NB305_311.out _; (with_reducible repeat (first | refine blk_drewN ?_ _ | refine blk_drew ?_ | refine blk_alloc ?_ _)); exact BK305.out⟩, ⟨by (with_reducible repeat (first | refine blk_drewN ?_ _ | refine blk_drew ?_ | refine blk_alloc ?_ _)); refine blk_far ?_ NB310_311.out _; (with_reducible repeat (first | refine blk_drewN ?_ _ | refine blk_drew ?_ | refine blk_alloc ?_ _)); exact BK310.out⟩, ⟨by (with_reducible repeat (first | refine blk_drewN ?_ _ | refine blk_drew ?_ | refine blk_alloc ?_ _)); apply bq8_4_; (with_reducible repeat (first | refine blk_drewN ?_ _ | refine blk_drew ?_ | refine blk_alloc ?_ _)); exact BK311.out⟩, ⟨bl_⟩⟩
             ·rw [if_neg c66] at H
              have c66b0 : ((rd y325 x43_1) == 11) = false := beq_eq_false_iff_ne.mpr c66
              have c66b1 : ((rd y325 x43_1) != 11) = true := bne_iff_ne.mpr c66
              by_cases c75 : (rd y325 x43_1) = 14
              ·rw [if_pos c75] at H
               have c75b0 : ((rd y325 x43_1) == 14) = true := beq_iff_eq.mpr c75
               have c75b1 : ((rd y325 x43_1) != 14) = false := bne_eq_false_iff_eq.mpr c75
               clear c75
               obtain ⟨⟨t334, t335⟩, A76, H⟩ := ob_ H
               (try dsimp only at H)
               have H' := Aside0.mk H
               clear H
               have p329 : 0 ≤ (x43_1 : Int) := od_
               have q329 : x43_1 < (y325.length : Int) := od_
               obtain ⟨ad329, e329, hx329_0⟩ := Kd.at_int (Kd.R_reads' HO_41.out).2.2 x43_1 p329 q329
               cases e329
               replace p329 := eq_true p329
               replace q329 := eq_true q329
               have hnb77 := NB304_305.out
               have hnc77 := NB305_304.out
               have hnb78 := NB304_310.out
               have hnc78 := NB310_304.out
               have hnb79 := NB304_311.out
               have hnc79 := NB311_304.out
               have hcz80_0 := cz_ BK304 0 (.string a0_0)
               have hcz80_1 := cz_ BK304 1 (.slice A0_1 l0_1.length c0_1)
               have hfz80_0 := fz_ BK304 0
               have hfz80_1 := fz_ BK304 1
               go_wp2_with (first | ((with_reducible refine gate_callee (f := 48) rfl ?_); refine goesL_ (some 50) rfl rfl Tryz.func48 (by kernel_rfl) rfl #[.agg #[.string a0_0, .slice A0_1 l0_1.length c0_1], .int .i64 (rd y325 x43_1)] rfl gl_ ?_; (with_reducible refine (impl_FieldOf.calls k1 a0_0 _ _ l0_1 (rd y325 x43_1) t330 true _ ?side1 ?side2 A44.out).mono ?_); (case side1 => exact ca_ (Kd.C_below HR0_1.out HB.out)); (case side2 => exact HC0_1.out); rintro e w81 ⟨rfl, hb⟩; refine ⟨_, rfl, ?_⟩; replace HO_41 := Aside0.mk (Kd.R_below (ra_ HO_41) hb); replace BK304 := Aside0.mk (blk_below (bk_ BK304) hb); replace BK305 := Aside0.mk (blk_below (bk_ BK305) hb); replace BK310 := Aside0.mk (blk_below (bk_ BK310) hb); replace BK311 := Aside0.mk (blk_below (bk_ BK311) hb); replace HB := Aside0.mk (below_step bl_ hb); (try clear hb); (try clear hb2); (try clear hk); (try clear hi)) | ((with_reducible refine gate_callee (f := 53) rfl ?_); refine goesL_ (some 77) rfl rfl Tryz.func53 (by kernel_rfl) rfl #[.string t330] rfl gl_ ?_; (with_reducible refine (impl_Narrow.calls k1 t330 t334 t335 _ A76.out).mono ?_); rintro e w82 ⟨rfl, hb⟩; refine ⟨_, rfl, ?_⟩; replace HO_41 := Aside0.mk (Kd.R_below (ra_ HO_41) hb); replace BK304 := Aside0.mk (blk_below (bk_ BK304) hb); replace BK305 := Aside0.mk (blk_below (bk_ BK305) hb); replace BK310 := Aside0.mk (blk_below (bk_ BK310) hb); replace BK311 := Aside0.mk (blk_below (bk_ BK311) hb); replace HB := Aside0.mk (below_step bl_ hb); (try clear hb); (try clear hb2); (try clear hk); (try clear hi); have hnb83 := NB311_305.out; have hnc83 := NB305_311.out; have hnb84 := NB311_310.out; have hnc84 := NB310_311.out; obtain ⟨hcz85_0, hcz85_1, hcz85_2, hcz85_3, hcz85_4, hcz85_5, hcz85_6, hcz85_7, hfz85_0, hfz85_1, hfz85_2, hfz85_3, hfz85_4, hfz85_5, hfz85_6, hfz85_7⟩ := bx8_ BK311))
               go_roundg k1
               case measure => have := HK1.out; omega
               case rel => exact ⟨(wrap64 (x43_1 + 1)), (x306000_1), (x306001_1), (x306002_1), (x306003_1), (x306004_1), (x306005_1), (x306006_1), (x306007_1), (x312001_1), (x312002_1), (x312003_1), (x312004_1), (x312006_1), (t334), sp_, H', ⟨by have := HK1.out; omega⟩, ⟨by (with_reducible repeat (first | apply Kd.R_alloc | apply Kd.R_drewN | apply Kd.R_drew)); exact Kd.R_mono (Kd.R_far (p := ⟨gb311, 7, none⟩) (Kd.R_types HO_41.out BK311.out (by decide)) (fun _ hk => hk.2) (.int .i64 t334)) (fun _ hk => trivial)⟩, ⟨by (with_reducible repeat (first | refine blk_drewN ?_ _ | refine blk_drew ?_ | refine blk_alloc ?_ _)); refine blk_far ?_ NB304_311.out _; (with_reducible repeat (first | refine blk_drewN ?_ _ | refine blk_drew ?_ | refine blk_alloc ?_ _)); exact BK304.out⟩, ⟨by (with_reducible repeat (first | refine blk_drewN ?_ _ | refine blk_drew ?_ | refine blk_alloc ?_ _)); refine blk_far ?_ NB305_311.out _; (with_reducible repeat (first | refine blk_drewN ?_ _ | refine blk_drew ?_ | refine blk_alloc ?_ _)); exact BK305.out⟩, ⟨by (with_reducible repeat (first | refine blk_drewN ?_ _ | refine blk_drew ?_ | refine blk_alloc ?_ _)); refine blk_far ?_ NB310_311.out _; (with_reducible repeat (first | refine blk_drewN ?_ _ | refine blk_drew ?_ | refine blk_alloc ?_ _)); exact BK310.out⟩, ⟨by (with_reducible repeat (first | refine blk_drewN ?_ _ | refine blk_drew ?_ | refine blk_alloc ?_ _)); apply bq8_7_; (with_reducible repeat (first | refine blk_drewN ?_ _ | refine blk_drew ?_ | refine blk_alloc ?_ _)); exact BK311.out⟩, ⟨bl_⟩⟩
              ·rw [if_neg c75] at H
               have c75b0 : ((rd y325 x43_1) == 14) = false := beq_eq_false_iff_ne.mpr c75
               have c75b1 : ((rd y325 x43_1) != 14) = true := bne_iff_ne.mpr c75
               by_cases c86 : (rd y325 x43_1) = 38
               ·rw [if_pos c86] at H
                have c86b0 : ((rd y325 x43_1) == 38) = true := beq_iff_eq.mpr c86
                have c86b1 : ((rd y325 x43_1) != 38) = false := bne_eq_false_iff_eq.mpr c86
                clear c86
                obtain ⟨t336, A87, H⟩ := ob_ H
                have H' := Aside0.mk H
                clear H
                have p329 : 0 ≤ (x43_1 : Int) := od_
                have q329 : x43_1 < (y325.length : Int) := od_
                obtain ⟨ad329, e329, hx329_0⟩ := Kd.at_int (Kd.R_reads' HO_41.out).2.2 x43_1 p329 q329
                cases e329
                replace p329 := eq_true p329
                replace q329 := eq_true q329
                have hnb88 := NB304_305.out
                have hnc88 := NB305_304.out
                have hnb89 := NB304_310.out
                have hnc89 := NB310_304.out
                have hnb90 := NB304_311.out
                have hnc90 := NB311_304.out
                have hcz91_0 := cz_ BK304 0 (.string a0_0)
                have hcz91_1 := cz_ BK304 1 (.slice A0_1 l0_1.length c0_1)
                have hfz91_0 := fz_ BK304 0
                have hfz91_1 := fz_ BK304 1
                go_wp2_with (first | ((with_reducible refine gate_callee (f := 48) rfl ?_); refine goesL_ (some 50) rfl rfl Tryz.func48 (by kernel_rfl) rfl #[.agg #[.string a0_0, .slice A0_1 l0_1.length c0_1], .int .i64 (rd y325 x43_1)] rfl gl_ ?_; (with_reducible refine (impl_FieldOf.calls k1 a0_0 _ _ l0_1 (rd y325 x43_1) t330 true _ ?side1 ?side2 A44.out).mono ?_); (case side1 => exact ca_ (Kd.C_below HR0_1.out HB.out)); (case side2 => exact HC0_1.out); rintro e w92 ⟨rfl, hb⟩; refine ⟨_, rfl, ?_⟩; replace HO_41 := Aside0.mk (Kd.R_below (ra_ HO_41) hb); replace BK304 := Aside0.mk (blk_below (bk_ BK304) hb); replace BK305 := Aside0.mk (blk_below (bk_ BK305) hb); replace BK310 := Aside0.mk (blk_below (bk_ BK310) hb); replace BK311 := Aside0.mk (blk_below (bk_ BK311) hb); replace HB := Aside0.mk (below_step bl_ hb); (try clear hb); (try clear hb2); (try clear hk); (try clear hi)) | ((with_reducible refine gate_callee (f := 54) rfl ?_); refine goesL_ (some 84) rfl rfl Tryz.func54 (by kernel_rfl) rfl #[.string t330] rfl gl_ ?_; (with_reducible refine (impl_FieldBare.calls t330 t336 _ A87.out).mono ?_); rintro e w93 ⟨rfl, hb⟩; refine ⟨_, rfl, ?_⟩; replace HO_41 := Aside0.mk (Kd.R_below (ra_ HO_41) hb); replace BK304 := Aside0.mk (blk_below (bk_ BK304) hb); replace BK305 := Aside0.mk (blk_below (bk_ BK305) hb); replace BK310 := Aside0.mk (blk_below (bk_ BK310) hb); replace BK311 := Aside0.mk (blk_below (bk_ BK311) hb); replace HB := Aside0.mk (below_step bl_ hb); (try clear hb); (try clear hb2); (try clear hk); (try clear hi); have hnb94 := NB311_305.out; have hnc94 := NB305_311.out; have hnb95 := NB311_310.out; have hnc95 := NB310_311.out; obtain ⟨hcz96_0, hcz96_1, hcz96_2, hcz96_3, hcz96_4, hcz96_5, hcz96_6, hcz96_7, hfz96_0, hfz96_1, hfz96_2, hfz96_3, hfz96_4, hfz96_5, hfz96_6, hfz96_7⟩ := bx8_ BK311))
                go_roundg k1
                case measure => have := HK1.out; omega
                case rel => exact ⟨(wrap64 (x43_1 + 1)), (x306000_1), (x306001_1), (x306002_1), (x306003_1), (x306004_1), (x306005_1), (x306006_1), (x306007_1), (x312001_1), (x312002_1), (t336), (x312004_1), (x312006_1), (x312007_1), sp_, H', ⟨by have := HK1.out; omega⟩, ⟨by (with_reducible repeat (first | apply Kd.R_alloc | apply Kd.R_drewN | apply Kd.R_drew)); exact Kd.R_mono (Kd.R_far (p := ⟨gb311, 3, none⟩) (Kd.R_types HO_41.out BK311.out (by decide)) (fun _ hk => hk.2) (.string t336)) (fun _ hk => trivial)⟩, ⟨by (with_reducible repeat (first | refine blk_drewN ?_ _ | refine blk_drew ?_ | refine blk_alloc ?_ _)); refine blk_far ?_ NB304_311.out _; (with_reducible repeat (first | refine blk_drewN ?_ _ | refine blk_drew ?_ | refine blk_alloc ?_ _)); exact BK304.out⟩, ⟨by (with_reducible repeat (first | refine blk_drewN ?_ _ | refine blk_drew ?_ | refine blk_alloc ?_ _)); refine blk_far ?_ NB305_311.out _; (with_reducible repeat (first | refine blk_drewN ?_ _ | refine blk_drew ?_ | refine blk_alloc ?_ _)); exact BK305.out⟩, ⟨by (with_reducible repeat (first | refine blk_drewN ?_ _ | refine blk_drew ?_ | refine blk_alloc ?_ _)); refine blk_far ?_ NB310_311.out _; (with_reducible repeat (first | refine blk_drewN ?_ _ | refine blk_drew ?_ | refine blk_alloc ?_ _)); exact BK310.out⟩, ⟨by (with_reducible repeat (first | refine blk_drewN ?_ _ | refine blk_drew ?_ | refine blk_alloc ?_ _)); apply bq8_3_; (with_reducible repeat (first | refine blk_drewN ?_ _ | refine blk_drew ?_ | refine blk_alloc ?_ _)); exact BK311.out⟩, ⟨bl_⟩⟩
               ·rw [if_neg c86] at H
                have c86b0 : ((rd y325 x43_1) == 38) = false := beq_eq_false_iff_ne.mpr c86
                have c86b1 : ((rd y325 x43_1) != 38) = true := bne_iff_ne.mpr c86
                by_cases c97 : (rd y325 x43_1) = 103
                ·rw [if_pos c97] at H
                 have c97b0 : ((rd y325 x43_1) == 103) = true := beq_iff_eq.mpr c97
                 have c97b1 : ((rd y325 x43_1) != 103) = false := bne_eq_false_iff_eq.mpr c97
                 clear c97
                 have H' := Aside0.mk H
                 clear H
                 have p329 : 0 ≤ (x43_1 : Int) := od_
                 have q329 : x43_1 < (y325.length : Int) := od_
                 obtain ⟨ad329, e329, hx329_0⟩ := Kd.at_int (Kd.R_reads' HO_41.out).2.2 x43_1 p329 q329
                 cases e329
                 replace p329 := eq_true p329
                 replace q329 := eq_true q329
                 have hnb98 := NB304_305.out
                 have hnc98 := NB305_304.out
                 have hnb99 := NB304_310.out
                 have hnc99 := NB310_304.out
                 have hnb100 := NB304_311.out
                 have hnc100 := NB311_304.out
                 have hcz101_0 := cz_ BK304 0 (.string a0_0)
                 have hcz101_1 := cz_ BK304 1 (.slice A0_1 l0_1.length c0_1)
                 have hfz101_0 := fz_ BK304 0
                 have hfz101_1 := fz_ BK304 1
                 go_wp2_with (first | ((with_reducible refine gate_callee (f := 48) rfl ?_); refine goesL_ (some 50) rfl rfl Tryz.func48 (by kernel_rfl) rfl #[.agg #[.string a0_0, .slice A0_1 l0_1.length c0_1], .int .i64 (rd y325 x43_1)] rfl gl_ ?_; (with_reducible refine (impl_FieldOf.calls k1 a0_0 _ _ l0_1 (rd y325 x43_1) t330 true _ ?side1 ?side2 A44.out).mono ?_); (case side1 => exact ca_ (Kd.C_below HR0_1.out HB.out)); (case side2 => exact HC0_1.out); rintro e w102 ⟨rfl, hb⟩; refine ⟨_, rfl, ?_⟩; replace HO_41 := Aside0.mk (Kd.R_below (ra_ HO_41) hb); replace BK304 := Aside0.mk (blk_below (bk_ BK304) hb); replace BK305 := Aside0.mk (blk_below (bk_ BK305) hb); replace BK310 := Aside0.mk (blk_below (bk_ BK310) hb); replace BK311 := Aside0.mk (blk_below (bk_ BK311) hb); replace HB := Aside0.mk (below_step bl_ hb); (try clear hb); (try clear hb2); (try clear hk); (try clear hi); have hnb103 := NB311_305.out; have hnc103 := NB305_311.out; have hnb104 := NB311_310.out; have hnc104 := NB310_311.out; obtain ⟨hcz105_0, hcz105_1, hcz105_2, hcz105_3, hcz105_4, hcz105_5, hcz105_6, hcz105_7, hfz105_0, hfz105_1, hfz105_2, hfz105_3, hfz105_4, hfz105_5, hfz105_6, hfz105_7⟩ := bx8_ BK311))
                 go_roundg k1
                 case measure => have := HK1.out; omega
                 case rel => exact ⟨(wrap64 (x43_1 + 1)), (x306000_1), (x306001_1), (x306002_1), (x306003_1), (x306004_1), (x306005_1), (x306006_1), (x306007_1), (x312001_1), (t330), (x312003_1), (x312004_1), (x312006_1), (x312007_1), sp_, H', ⟨by have := HK1.out; omega⟩, ⟨by (with_reducible repeat (first | apply Kd.R_alloc | apply Kd.R_drewN | apply Kd.R_drew)); exact Kd.R_mono (Kd.R_far (p := ⟨gb311, 2, none⟩) (Kd.R_types HO_41.out BK311.out (by decide)) (fun _ hk => hk.2) (.string t330)) (fun _ hk => trivial)⟩, ⟨by (with_reducible repeat (first | refine blk_drewN ?_ _ | refine blk_drew ?_ | refine blk_alloc ?_ _)); refine blk_far ?_ NB304_311.out _; (with_reducible repeat (first | refine blk_drewN ?_ _ | refine blk_drew ?_ | refine blk_alloc ?_ _)); exact BK304.out⟩, ⟨by (with_reducible repeat (first | refine blk_drewN ?_ _ | refine blk_drew ?_ | refine blk_alloc ?_ _)); refine blk_far ?_ NB305_311.out _; (with_reducible repeat (first | refine blk_drewN ?_ _ | refine blk_drew ?_ | refine blk_alloc ?_ _)); exact BK305.out⟩, ⟨by (with_reducible repeat (first | refine blk_drewN ?_ _ | refine blk_drew ?_ | refine blk_alloc ?_ _)); refine blk_far ?_ NB310_311.out _; (with_reducible repeat (first | refine blk_drewN ?_ _ | refine blk_drew ?_ | refine blk_alloc ?_ _)); exact BK310.out⟩, ⟨by (with_reducible repeat (first | refine blk_drewN ?_ _ | refine blk_drew ?_ | refine blk_alloc ?_ _)); apply bq8_2_; (with_reducible repeat (first | refine blk_drewN ?_ _ | refine blk_drew ?_ | refine blk_alloc ?_ _)); exact BK311.out⟩, ⟨bl_⟩⟩
                ·rw [if_neg c97] at H
                 have c97b0 : ((rd y325 x43_1) == 103) = false := beq_eq_false_iff_ne.mpr c97
                 have c97b1 : ((rd y325 x43_1) != 103) = true := bne_iff_ne.mpr c97
                 have H' := Aside0.mk H
                 clear H
                 have p329 : 0 ≤ (x43_1 : Int) := od_
                 have q329 : x43_1 < (y325.length : Int) := od_
                 obtain ⟨ad329, e329, hx329_0⟩ := Kd.at_int (Kd.R_reads' HO_41.out).2.2 x43_1 p329 q329
                 cases e329
                 replace p329 := eq_true p329
                 replace q329 := eq_true q329
                 have hnb106 := NB304_305.out
                 have hnc106 := NB305_304.out
                 have hnb107 := NB304_310.out
                 have hnc107 := NB310_304.out
                 have hnb108 := NB304_311.out
                 have hnc108 := NB311_304.out
                 have hcz109_0 := cz_ BK304 0 (.string a0_0)
                 have hcz109_1 := cz_ BK304 1 (.slice A0_1 l0_1.length c0_1)
                 have hfz109_0 := fz_ BK304 0
                 have hfz109_1 := fz_ BK304 1
                 go_wp2_with (first | ((with_reducible refine gate_callee (f := 48) rfl ?_); refine goesL_ (some 50) rfl rfl Tryz.func48 (by kernel_rfl) rfl #[.agg #[.string a0_0, .slice A0_1 l0_1.length c0_1], .int .i64 (rd y325 x43_1)] rfl gl_ ?_; (with_reducible refine (impl_FieldOf.calls k1 a0_0 _ _ l0_1 (rd y325 x43_1) t330 true _ ?side1 ?side2 A44.out).mono ?_); (case side1 => exact ca_ (Kd.C_below HR0_1.out HB.out)); (case side2 => exact HC0_1.out); rintro e w110 ⟨rfl, hb⟩; refine ⟨_, rfl, ?_⟩; replace HO_41 := Aside0.mk (Kd.R_below (ra_ HO_41) hb); replace BK304 := Aside0.mk (blk_below (bk_ BK304) hb); replace BK305 := Aside0.mk (blk_below (bk_ BK305) hb); replace BK310 := Aside0.mk (blk_below (bk_ BK310) hb); replace BK311 := Aside0.mk (blk_below (bk_ BK311) hb); replace HB := Aside0.mk (below_step bl_ hb); (try clear hb); (try clear hb2); (try clear hk); (try clear hi)))
                 go_roundg k1
                 case measure => have := HK1.out; omega
                 case rel => exact ⟨(wrap64 (x43_1 + 1)), (x306000_1), (x306001_1), (x306002_1), (x306003_1), (x306004_1), (x306005_1), (x306006_1), (x306007_1), (x312001_1), (x312002_1), (x312003_1), (x312004_1), (x312006_1), (x312007_1), sp_, H', ⟨by have := HK1.out; omega⟩, ⟨ra_ HO_41⟩, ⟨by (with_reducible repeat (first | refine blk_drewN ?_ _ | refine blk_drew ?_ | refine blk_alloc ?_ _)); exact BK304.out⟩, ⟨by (with_reducible repeat (first | refine blk_drewN ?_ _ | refine blk_drew ?_ | refine blk_alloc ?_ _)); exact BK305.out⟩, ⟨by (with_reducible repeat (first | refine blk_drewN ?_ _ | refine blk_drew ?_ | refine blk_alloc ?_ _)); exact BK310.out⟩, ⟨by (with_reducible repeat (first | refine blk_drewN ?_ _ | refine blk_drew ?_ | refine blk_alloc ?_ _)); exact BK311.out⟩, ⟨bl_⟩⟩
          ·replace c45 := Bool.eq_false_iff.mpr c45
           subst c45
           replace H := in_ H
           simp only [Option.some.injEq, Prod.mk.injEq] at H
           obtain ⟨rfl, rfl, rfl, rfl, rfl, rfl, rfl, rfl, rfl⟩ := H
           have p329 : 0 ≤ (x43_1 : Int) := od_
           have q329 : x43_1 < (y325.length : Int) := od_
           obtain ⟨ad329, e329, hx329_0⟩ := Kd.at_int (Kd.R_reads' HO_41.out).2.2 x43_1 p329 q329
           cases e329
           replace p329 := eq_true p329
           replace q329 := eq_true q329
           have hnb111 := NB304_305.out
           have hnc111 := NB305_304.out
           have hnb112 := NB304_310.out
           have hnc112 := NB310_304.out
           have hnb113 := NB304_311.out
           have hnc113 := NB311_304.out
           have hcz114_0 := cz_ BK304 0 (.string a0_0)
           have hcz114_1 := cz_ BK304 1 (.slice A0_1 l0_1.length c0_1)
           have hfz114_0 := fz_ BK304 0
           have hfz114_1 := fz_ BK304 1
           go_wp2_with (first | ((with_reducible refine gate_callee (f := 48) rfl ?_); refine goesL_ (some 50) rfl rfl Tryz.func48 (by kernel_rfl) rfl #[.agg #[.string a0_0, .slice A0_1 l0_1.length c0_1], .int .i64 (rd y325 x43_1)] rfl gl_ ?_; (with_reducible refine (impl_FieldOf.calls k1 a0_0 _ _ l0_1 (rd y325 x43_1) t330 false _ ?side1 ?side2 A44.out).mono ?_); (case side1 => exact ca_ (Kd.C_below HR0_1.out HB.out)); (case side2 => exact HC0_1.out); rintro e w115 ⟨rfl, hb⟩; refine ⟨_, rfl, ?_⟩; replace HO_41 := Aside0.mk (Kd.R_below (ra_ HO_41) hb); replace BK304 := Aside0.mk (blk_below (bk_ BK304) hb); replace BK305 := Aside0.mk (blk_below (bk_ BK305) hb); replace BK310 := Aside0.mk (blk_below (bk_ BK310) hb); replace BK311 := Aside0.mk (blk_below (bk_ BK311) hb); replace HB := Aside0.mk (below_step bl_ hb); (try clear hb); (try clear hb2); (try clear hk); (try clear hi); have hnb116 := NB305_310.out; have hnc116 := NB310_305.out; have hnb117 := NB305_311.out; have hnc117 := NB311_305.out; obtain ⟨hcz118_0, hcz118_1, hcz118_2, hcz118_3, hcz118_4, hcz118_5, hcz118_6, hcz118_7, hfz118_0, hfz118_1, hfz118_2, hfz118_3, hfz118_4, hfz118_5, hfz118_6, hfz118_7⟩ := bx8_ BK305))
           refine bodyPost_ret (results_ct rfl _ _ gb305 27 #[.int .i64 0, .string (⟨#[]⟩ : ByteArray), .string (⟨#[]⟩ : ByteArray), .string (⟨#[]⟩ : ByteArray), .string (⟨#[]⟩ : ByteArray), .string (⟨#[]⟩ : ByteArray), .int .i64 0, .int .i64 0] (0, 0) _ rfl (by (with_reducible repeat (first | refine blk_drewN ?_ _ | refine blk_drew ?_ | refine blk_alloc ?_ _)); apply bq8_7_6_5_4_3_2_1_0_; (with_reducible repeat (first | refine blk_drewN ?_ _ | refine blk_drew ?_ | refine blk_alloc ?_ _)); exact BK305.out) Tryz.underlying27 rfl (by kernel_rfl)) rfl ?_
           exact ⟨sq_, bl_⟩
         ·rw [if_neg c43] at H
          exact absurd H (by simp)
        ·rw [if_neg c42] at H
         exact absurd H (by simp)
       ·rw [if_neg c41] at H
        have c41b0 : decide (x43_1 < (y325.length : Int)) = false := decide_eq_false c41
        clear c41
        obtain ⟨t328, A119, H⟩ := ob_ H
        by_cases c120 : t328 = true
        ·subst c120
         replace H := ip_ H
         simp only [Option.some.injEq, Prod.mk.injEq] at H
         obtain ⟨rfl, rfl, rfl, rfl, rfl, rfl, rfl, rfl, rfl⟩ := H
         have hnb121 := NB311_304.out
         have hnc121 := NB304_311.out
         have hnb122 := NB311_305.out
         have hnc122 := NB305_311.out
         have hnb123 := NB311_310.out
         have hnc123 := NB310_311.out
         have hcz124_0 := cz_ BK311 0 (.int .i64 (wrap64 (1 + t315)))
         have hcz124_1 := cz_ BK311 1 (.string x312001_1)
         have hcz124_2 := cz_ BK311 2 (.string x312002_1)
         have hcz124_3 := cz_ BK311 3 (.string x312003_1)
         have hcz124_4 := cz_ BK311 4 (.string x312004_1)
         have hcz124_5 := cz_ BK311 5 (.string a0_0)
         have hcz124_6 := cz_ BK311 6 (.int .i64 x312006_1)
         have hcz124_7 := cz_ BK311 7 (.int .i64 x312007_1)
         have hfz124_0 := fz_ BK311 0
         have hfz124_1 := fz_ BK311 1
         have hfz124_2 := fz_ BK311 2
         have hfz124_3 := fz_ BK311 3
         have hfz124_4 := fz_ BK311 4
         have hfz124_5 := fz_ BK311 5
         have hfz124_6 := fz_ BK311 6
         have hfz124_7 := fz_ BK311 7
         go_wp2_with (first | ((with_reducible refine gate_callee (f := 55) rfl ?_); refine goesL_ (some 92) rfl rfl Tryz.func55 (by kernel_rfl) rfl #[.agg #[.int .i64 (wrap64 (1 + t315)), .string x312001_1, .string x312002_1, .string x312003_1, .string x312004_1, .string a0_0, .int .i64 x312006_1, .int .i64 x312007_1]] rfl gl_ ?_; (with_reducible refine (impl_ReqOk.calls k1 (wrap64 (1 + t315)) x312001_1 x312002_1 x312003_1 x312004_1 a0_0 x312006_1 x312007_1 true _ A119.out).mono ?_); rintro e w125 ⟨rfl, hb⟩; refine ⟨_, rfl, ?_⟩; replace HO_41 := Aside0.mk (Kd.R_below (ra_ HO_41) hb); replace BK304 := Aside0.mk (blk_below (bk_ BK304) hb); replace BK305 := Aside0.mk (blk_below (bk_ BK305) hb); replace BK310 := Aside0.mk (blk_below (bk_ BK310) hb); replace BK311 := Aside0.mk (blk_below (bk_ BK311) hb); replace HB := Aside0.mk (below_step bl_ hb); (try clear hb); (try clear hb2); (try clear hk); (try clear hi); obtain ⟨hcz126_0, hcz126_1, hcz126_2, hcz126_3, hcz126_4, hcz126_5, hcz126_6, hcz126_7, hfz126_0, hfz126_1, hfz126_2, hfz126_3, hfz126_4, hfz126_5, hfz126_6, hfz126_7⟩ := bx8_ BK311; have hnb127 := NB305_304.out; have hnc127 := NB304_305.out; have hnb128 := NB305_310.out; have hnc128 := NB310_305.out; obtain ⟨hcz129_0, hcz129_1, hcz129_2, hcz129_3, hcz129_4, hcz129_5, hcz129_6, hcz129_7, hfz129_0, hfz129_1, hfz129_2, hfz129_3, hfz129_4, hfz129_5, hfz129_6, hfz129_7⟩ := bx8_ BK305))
         refine bodyPost_ret (results_ct rfl _ _ gb305 27 #[.int .i64 (wrap64 (1 + t315)), .string x312001_1, .string x312002_1, .string x312003_1, .string x312004_1, .string a0_0, .int .i64 x312006_1, .int .i64 x312007_1] (0, 0) _ rfl (by (with_reducible repeat (first | refine blk_drewN ?_ _ | refine blk_drew ?_ | refine blk_alloc ?_ _)); apply bq8_7_6_5_4_3_2_1_0_; (with_reducible repeat (first | refine blk_drewN ?_ _ | refine blk_drew ?_ | refine blk_alloc ?_ _)); exact BK305.out) Tryz.underlying27 rfl (by kernel_rfl)) rfl ?_
         exact ⟨sq_, bl_⟩
        ·replace c120 := Bool.eq_false_iff.mpr c120
         subst c120
         replace H := in_ H
         simp only [Option.some.injEq, Prod.mk.injEq] at H
         obtain ⟨rfl, rfl, rfl, rfl, rfl, rfl, rfl, rfl, rfl⟩ := H
         have hnb130 := NB311_304.out
         have hnc130 := NB304_311.out
         have hnb131 := NB311_305.out
         have hnc131 := NB305_311.out
         have hnb132 := NB311_310.out
         have hnc132 := NB310_311.out
         have hcz133_0 := cz_ BK311 0 (.int .i64 (wrap64 (1 + t315)))
         have hcz133_1 := cz_ BK311 1 (.string x312001_1)
         have hcz133_2 := cz_ BK311 2 (.string x312002_1)
         have hcz133_3 := cz_ BK311 3 (.string x312003_1)
         have hcz133_4 := cz_ BK311 4 (.string x312004_1)
         have hcz133_5 := cz_ BK311 5 (.string a0_0)
         have hcz133_6 := cz_ BK311 6 (.int .i64 x312006_1)
         have hcz133_7 := cz_ BK311 7 (.int .i64 x312007_1)
         have hfz133_0 := fz_ BK311 0
         have hfz133_1 := fz_ BK311 1
         have hfz133_2 := fz_ BK311 2
         have hfz133_3 := fz_ BK311 3
         have hfz133_4 := fz_ BK311 4
         have hfz133_5 := fz_ BK311 5
         have hfz133_6 := fz_ BK311 6
         have hfz133_7 := fz_ BK311 7
         go_wp2_with (first | ((with_reducible refine gate_callee (f := 55) rfl ?_); refine goesL_ (some 92) rfl rfl Tryz.func55 (by kernel_rfl) rfl #[.agg #[.int .i64 (wrap64 (1 + t315)), .string x312001_1, .string x312002_1, .string x312003_1, .string x312004_1, .string a0_0, .int .i64 x312006_1, .int .i64 x312007_1]] rfl gl_ ?_; (with_reducible refine (impl_ReqOk.calls k1 (wrap64 (1 + t315)) x312001_1 x312002_1 x312003_1 x312004_1 a0_0 x312006_1 x312007_1 false _ A119.out).mono ?_); rintro e w134 ⟨rfl, hb⟩; refine ⟨_, rfl, ?_⟩; replace HO_41 := Aside0.mk (Kd.R_below (ra_ HO_41) hb); replace BK304 := Aside0.mk (blk_below (bk_ BK304) hb); replace BK305 := Aside0.mk (blk_below (bk_ BK305) hb); replace BK310 := Aside0.mk (blk_below (bk_ BK310) hb); replace BK311 := Aside0.mk (blk_below (bk_ BK311) hb); replace HB := Aside0.mk (below_step bl_ hb); (try clear hb); (try clear hb2); (try clear hk); (try clear hi); have hnb135 := NB305_304.out; have hnc135 := NB304_305.out; have hnb136 := NB305_310.out; have hnc136 := NB310_305.out; obtain ⟨hcz137_0, hcz137_1, hcz137_2, hcz137_3, hcz137_4, hcz137_5, hcz137_6, hcz137_7, hfz137_0, hfz137_1, hfz137_2, hfz137_3, hfz137_4, hfz137_5, hfz137_6, hfz137_7⟩ := bx8_ BK305))
         refine bodyPost_ret (results_ct rfl _ _ gb305 27 #[.int .i64 0, .string (⟨#[]⟩ : ByteArray), .string (⟨#[]⟩ : ByteArray), .string (⟨#[]⟩ : ByteArray), .string (⟨#[]⟩ : ByteArray), .string (⟨#[]⟩ : ByteArray), .int .i64 0, .int .i64 0] (0, 0) _ rfl (by (with_reducible repeat (first | refine blk_drewN ?_ _ | refine blk_drew ?_ | refine blk_alloc ?_ _)); apply bq8_7_6_5_4_3_2_1_0_; (with_reducible repeat (first | refine blk_drewN ?_ _ | refine blk_drew ?_ | refine blk_alloc ?_ _)); exact BK305.out) Tryz.underlying27 rfl (by kernel_rfl)) rfl ?_
         exact ⟨sq_, bl_⟩
    ·rw [if_neg c11] at H
     exact absurd H (by simp)
   ·replace c7 := Bool.eq_false_iff.mpr c7
    subst c7
    replace H := in_ H
    simp only [Option.some.injEq, Prod.mk.injEq] at H
    obtain ⟨rfl, rfl, rfl, rfl, rfl, rfl, rfl, rfl, rfl⟩ := H
    go_enter Tryz.func11, Tryz.ntmps11
    go_wp2_with (first | ((with_reducible refine gate_dst (N := 1) rfl ?_); refine be_ (N := 1) (cs := #[.string a0_0, .slice A0_1 l0_1.length c0_1]) (t := 32) ?_; intro gb304 hg w138 hbox hb; have BK304 := Aside0.mk (hbox); have GW304 := gw_ (w := w) hg; have GE304 := gw_ (w := w) hg; replace HB := Aside0.mk (below_step bl_ hb); clear hb hbox hg) | ((with_reducible refine gate_dst (N := 2) rfl ?_); refine be_ (N := 2) (cs := #[.int .i64 0, .string (⟨#[]⟩ : ByteArray), .string (⟨#[]⟩ : ByteArray), .string (⟨#[]⟩ : ByteArray), .string (⟨#[]⟩ : ByteArray), .string (⟨#[]⟩ : ByteArray), .int .i64 0, .int .i64 0]) (t := 27) ?_; intro gb305 hg w139 hbox hb; have BK305 := Aside0.mk (hbox); have GW305 := gw_ (w := w) hg; have GE305 := gw_ (w := w) hg; replace HB := Aside0.mk (below_step bl_ hb); have NB304_305 := Aside0.mk ((by rw [hg]; exact Nat.ne_of_lt (blk_lt (bk_ BK304)) : gb304 ≠ gb305)); have NB305_304 := Aside0.mk ((by rw [hg]; exact Nat.ne_of_gt (blk_lt (bk_ BK304)) : gb305 ≠ gb304)); replace BK304 := Aside0.mk (blk_below (bk_ BK304) hb); clear hb hbox hg; have hnb140 := NB304_305.out; have hnc140 := NB305_304.out; obtain ⟨hcz141_0, hcz141_1, hfz141_0, hfz141_1⟩ := bx2_ BK304) | ((with_reducible refine gate_callee (f := 46) rfl ?_); refine goesL_ (some 12) rfl rfl Tryz.func46 (by kernel_rfl) rfl #[.agg #[.string a0_0, .slice A0_1 l0_1.length c0_1]] rfl gl_ ?_; (with_reducible refine (impl_MsgOk.calls k a0_0 _ _ l0_1 true _ ?side1 ?side2 A2.out).mono ?_); (case side1 => exact ca_ (Kd.C_below HR0_1.out HB.out)); (case side2 => exact HC0_1.out); rintro e w142 ⟨rfl, hb⟩; refine ⟨_, rfl, ?_⟩; replace BK304 := Aside0.mk (blk_below (bk_ BK304) hb); replace BK305 := Aside0.mk (blk_below (bk_ BK305) hb); replace HB := Aside0.mk (below_step bl_ hb); (try clear hb); (try clear hb2); (try clear hk); (try clear hi); obtain ⟨hcz143_0, hcz143_1, hfz143_0, hfz143_1⟩ := bx2_ BK304) | ((with_reducible refine gate_callee (f := 47) rfl ?_); refine goesL_ (some 17) rfl rfl Tryz.func47 (by kernel_rfl) rfl #[.string a0_0] rfl gl_ ?_; (with_reducible refine (impl_MtiKnown.calls a0_0 true _ A4.out).mono ?_); rintro e w' ⟨rfl, ⟨nd, rfl⟩⟩; refine ⟨_, rfl, ?_⟩; (try (rw [drewN_self w142]; generalize hq_ : World.drewN w142 _ = w142; have n0_ : Aside0 (w142.heap[gb304]? = some (.cells #[.string a0_0, .slice A0_1 l0_1.length c0_1] 32 (0, 0))) := ⟨by rw [← hq_]; exact (by (with_reducible repeat (first | refine blk_drewN ?_ _ | refine blk_drew ?_ | refine blk_alloc ?_ _)); exact BK304.out)⟩; have n1_ : Aside0 (w142.heap[gb305]? = some (.cells #[.int .i64 0, .string (⟨#[]⟩ : ByteArray), .string (⟨#[]⟩ : ByteArray), .string (⟨#[]⟩ : ByteArray), .string (⟨#[]⟩ : ByteArray), .string (⟨#[]⟩ : ByteArray), .int .i64 0, .int .i64 0] 27 (0, 0))) := ⟨by rw [← hq_]; exact (by (with_reducible repeat (first | refine blk_drewN ?_ _ | refine blk_drew ?_ | refine blk_alloc ?_ _)); exact BK305.out)⟩; have n2_ : Aside0 (Below w.heap.size w w142) := ⟨by rw [← hq_]; exact bl_⟩; clear BK304 BK305 HB hq_; have BK304 := n0_; have BK305 := n1_; have HB := n2_; clear n0_ n1_ n2_)); obtain ⟨hcz144_0, hcz144_1, hfz144_0, hfz144_1⟩ := bx2_ BK304) | ((with_reducible refine gate_callee (f := 48) rfl ?_); refine goesL_ (some 22) rfl rfl Tryz.func48 (by kernel_rfl) rfl #[.agg #[.string a0_0, .slice A0_1 l0_1.length c0_1], .int .i64 3] rfl gl_ ?_; (with_reducible refine (impl_FieldOf.calls k a0_0 _ _ l0_1 3 t308 false _ ?side1 ?side2 A6.out).mono ?_); (case side1 => exact ca_ (Kd.C_below HR0_1.out HB.out)); (case side2 => exact HC0_1.out); rintro e w145 ⟨rfl, hb⟩; refine ⟨_, rfl, ?_⟩; replace BK304 := Aside0.mk (blk_below (bk_ BK304) hb); replace BK305 := Aside0.mk (blk_below (bk_ BK305) hb); replace HB := Aside0.mk (below_step bl_ hb); (try clear hb); (try clear hb2); (try clear hk); (try clear hi)) | ((with_reducible refine gate_dst (N := 4) rfl ?_); refine be_ (N := 4) (cs := #[.string (⟨#[]⟩ : ByteArray)]) (t := 9) ?_; intro gb310 hg w146 hbox hb; have BK310 := Aside0.mk (hbox); have GW310 := gw_ (w := w) hg; have GE310 := gw_ (w := w) hg; replace HB := Aside0.mk (below_step bl_ hb); have NB304_310 := Aside0.mk ((by rw [hg]; exact Nat.ne_of_lt (blk_lt (bk_ BK304)) : gb304 ≠ gb310)); have NB310_304 := Aside0.mk ((by rw [hg]; exact Nat.ne_of_gt (blk_lt (bk_ BK304)) : gb310 ≠ gb304)); replace BK304 := Aside0.mk (blk_below (bk_ BK304) hb); have NB305_310 := Aside0.mk ((by rw [hg]; exact Nat.ne_of_lt (blk_lt (bk_ BK305)) : gb305 ≠ gb310)); have NB310_305 := Aside0.mk ((by rw [hg]; exact Nat.ne_of_gt (blk_lt (bk_ BK305)) : gb310 ≠ gb305)); replace BK305 := Aside0.mk (blk_below (bk_ BK305) hb); clear hb hbox hg; have hnb147 := NB310_304.out; have hnc147 := NB304_310.out; have hnb148 := NB310_305.out; have hnc148 := NB305_310.out; have hcz149_0 := cz_ BK310 0 (.string (⟨#[]⟩ : ByteArray)); have hfz149_0 := fz_ BK310 0; obtain ⟨hcz150_0, hcz150_1, hcz150_2, hcz150_3, hcz150_4, hcz150_5, hcz150_6, hcz150_7, hfz150_0, hfz150_1, hfz150_2, hfz150_3, hfz150_4, hfz150_5, hfz150_6, hfz150_7⟩ := bx8_ BK305))
    refine bodyPost_ret (results_ct rfl _ _ gb305 27 #[.int .i64 0, .string (⟨#[]⟩ : ByteArray), .string (⟨#[]⟩ : ByteArray), .string (⟨#[]⟩ : ByteArray), .string (⟨#[]⟩ : ByteArray), .string (⟨#[]⟩ : ByteArray), .int .i64 0, .int .i64 0] (0, 0) _ rfl (by (with_reducible repeat (first | refine blk_drewN ?_ _ | refine blk_drew ?_ | refine blk_alloc ?_ _)); apply bq8_7_6_5_4_3_2_1_0_; (with_reducible repeat (first | refine blk_drewN ?_ _ | refine blk_drew ?_ | refine blk_alloc ?_ _)); refine blk_far ?_ NB305_310.out _; (with_reducible repeat (first | refine blk_drewN ?_ _ | refine blk_drew ?_ | refine blk_alloc ?_ _)); exact BK305.out) Tryz.underlying27 rfl (by kernel_rfl)) rfl ?_
    exact ⟨sq_, bl_⟩
  ·replace c5 := Bool.eq_false_iff.mpr c5
   subst c5
   replace H := in_ H
   simp only [Option.some.injEq, Prod.mk.injEq] at H
   obtain ⟨rfl, rfl, rfl, rfl, rfl, rfl, rfl, rfl, rfl⟩ := H
   go_enter Tryz.func11, Tryz.ntmps11
   go_wp2_with (first | ((with_reducible refine gate_dst (N := 1) rfl ?_); refine be_ (N := 1) (cs := #[.string a0_0, .slice A0_1 l0_1.length c0_1]) (t := 32) ?_; intro gb304 hg w151 hbox hb; have BK304 := Aside0.mk (hbox); have GW304 := gw_ (w := w) hg; have GE304 := gw_ (w := w) hg; replace HB := Aside0.mk (below_step bl_ hb); clear hb hbox hg) | ((with_reducible refine gate_dst (N := 2) rfl ?_); refine be_ (N := 2) (cs := #[.int .i64 0, .string (⟨#[]⟩ : ByteArray), .string (⟨#[]⟩ : ByteArray), .string (⟨#[]⟩ : ByteArray), .string (⟨#[]⟩ : ByteArray), .string (⟨#[]⟩ : ByteArray), .int .i64 0, .int .i64 0]) (t := 27) ?_; intro gb305 hg w152 hbox hb; have BK305 := Aside0.mk (hbox); have GW305 := gw_ (w := w) hg; have GE305 := gw_ (w := w) hg; replace HB := Aside0.mk (below_step bl_ hb); have NB304_305 := Aside0.mk ((by rw [hg]; exact Nat.ne_of_lt (blk_lt (bk_ BK304)) : gb304 ≠ gb305)); have NB305_304 := Aside0.mk ((by rw [hg]; exact Nat.ne_of_gt (blk_lt (bk_ BK304)) : gb305 ≠ gb304)); replace BK304 := Aside0.mk (blk_below (bk_ BK304) hb); clear hb hbox hg; have hnb153 := NB304_305.out; have hnc153 := NB305_304.out; obtain ⟨hcz154_0, hcz154_1, hfz154_0, hfz154_1⟩ := bx2_ BK304) | ((with_reducible refine gate_callee (f := 46) rfl ?_); refine goesL_ (some 12) rfl rfl Tryz.func46 (by kernel_rfl) rfl #[.agg #[.string a0_0, .slice A0_1 l0_1.length c0_1]] rfl gl_ ?_; (with_reducible refine (impl_MsgOk.calls k a0_0 _ _ l0_1 true _ ?side1 ?side2 A2.out).mono ?_); (case side1 => exact ca_ (Kd.C_below HR0_1.out HB.out)); (case side2 => exact HC0_1.out); rintro e w155 ⟨rfl, hb⟩; refine ⟨_, rfl, ?_⟩; replace BK304 := Aside0.mk (blk_below (bk_ BK304) hb); replace BK305 := Aside0.mk (blk_below (bk_ BK305) hb); replace HB := Aside0.mk (below_step bl_ hb); (try clear hb); (try clear hb2); (try clear hk); (try clear hi); obtain ⟨hcz156_0, hcz156_1, hfz156_0, hfz156_1⟩ := bx2_ BK304) | ((with_reducible refine gate_callee (f := 47) rfl ?_); refine goesL_ (some 17) rfl rfl Tryz.func47 (by kernel_rfl) rfl #[.string a0_0] rfl gl_ ?_; (with_reducible refine (impl_MtiKnown.calls a0_0 false _ A4.out).mono ?_); rintro e w' ⟨rfl, ⟨nd, rfl⟩⟩; refine ⟨_, rfl, ?_⟩; (try (rw [drewN_self w155]; generalize hq_ : World.drewN w155 _ = w155; have n0_ : Aside0 (w155.heap[gb304]? = some (.cells #[.string a0_0, .slice A0_1 l0_1.length c0_1] 32 (0, 0))) := ⟨by rw [← hq_]; exact (by (with_reducible repeat (first | refine blk_drewN ?_ _ | refine blk_drew ?_ | refine blk_alloc ?_ _)); exact BK304.out)⟩; have n1_ : Aside0 (w155.heap[gb305]? = some (.cells #[.int .i64 0, .string (⟨#[]⟩ : ByteArray), .string (⟨#[]⟩ : ByteArray), .string (⟨#[]⟩ : ByteArray), .string (⟨#[]⟩ : ByteArray), .string (⟨#[]⟩ : ByteArray), .int .i64 0, .int .i64 0] 27 (0, 0))) := ⟨by rw [← hq_]; exact (by (with_reducible repeat (first | refine blk_drewN ?_ _ | refine blk_drew ?_ | refine blk_alloc ?_ _)); exact BK305.out)⟩; have n2_ : Aside0 (Below w.heap.size w w155) := ⟨by rw [← hq_]; exact bl_⟩; clear BK304 BK305 HB hq_; have BK304 := n0_; have BK305 := n1_; have HB := n2_; clear n0_ n1_ n2_)); obtain ⟨hcz157_0, hcz157_1, hcz157_2, hcz157_3, hcz157_4, hcz157_5, hcz157_6, hcz157_7, hfz157_0, hfz157_1, hfz157_2, hfz157_3, hfz157_4, hfz157_5, hfz157_6, hfz157_7⟩ := bx8_ BK305))
   refine bodyPost_ret (results_ct rfl _ _ gb305 27 #[.int .i64 0, .string (⟨#[]⟩ : ByteArray), .string (⟨#[]⟩ : ByteArray), .string (⟨#[]⟩ : ByteArray), .string (⟨#[]⟩ : ByteArray), .string (⟨#[]⟩ : ByteArray), .int .i64 0, .int .i64 0] (0, 0) _ rfl (by (with_reducible repeat (first | refine blk_drewN ?_ _ | refine blk_drew ?_ | refine blk_alloc ?_ _)); apply bq8_7_6_5_4_3_2_1_0_; (with_reducible repeat (first | refine blk_drewN ?_ _ | refine blk_drew ?_ | refine blk_alloc ?_ _)); exact BK305.out) Tryz.underlying27 rfl (by kernel_rfl)) rfl ?_
   exact ⟨sq_, bl_⟩
 ·replace c3 := Bool.eq_false_iff.mpr c3
  subst c3
  replace H := in_ H
  simp only [Option.some.injEq, Prod.mk.injEq] at H
  obtain ⟨rfl, rfl, rfl, rfl, rfl, rfl, rfl, rfl, rfl⟩ := H
  go_enter Tryz.func11, Tryz.ntmps11
  go_wp2_with (first | ((with_reducible refine gate_dst (N := 1) rfl ?_); refine be_ (N := 1) (cs := #[.string a0_0, .slice A0_1 l0_1.length c0_1]) (t := 32) ?_; intro gb304 hg w158 hbox hb; have BK304 := Aside0.mk (hbox); have GW304 := gw_ (w := w) hg; have GE304 := gw_ (w := w) hg; replace HB := Aside0.mk (below_step bl_ hb); clear hb hbox hg) | ((with_reducible refine gate_dst (N := 2) rfl ?_); refine be_ (N := 2) (cs := #[.int .i64 0, .string (⟨#[]⟩ : ByteArray), .string (⟨#[]⟩ : ByteArray), .string (⟨#[]⟩ : ByteArray), .string (⟨#[]⟩ : ByteArray), .string (⟨#[]⟩ : ByteArray), .int .i64 0, .int .i64 0]) (t := 27) ?_; intro gb305 hg w159 hbox hb; have BK305 := Aside0.mk (hbox); have GW305 := gw_ (w := w) hg; have GE305 := gw_ (w := w) hg; replace HB := Aside0.mk (below_step bl_ hb); have NB304_305 := Aside0.mk ((by rw [hg]; exact Nat.ne_of_lt (blk_lt (bk_ BK304)) : gb304 ≠ gb305)); have NB305_304 := Aside0.mk ((by rw [hg]; exact Nat.ne_of_gt (blk_lt (bk_ BK304)) : gb305 ≠ gb304)); replace BK304 := Aside0.mk (blk_below (bk_ BK304) hb); clear hb hbox hg; have hnb160 := NB304_305.out; have hnc160 := NB305_304.out; obtain ⟨hcz161_0, hcz161_1, hfz161_0, hfz161_1⟩ := bx2_ BK304) | ((with_reducible refine gate_callee (f := 46) rfl ?_); refine goesL_ (some 12) rfl rfl Tryz.func46 (by kernel_rfl) rfl #[.agg #[.string a0_0, .slice A0_1 l0_1.length c0_1]] rfl gl_ ?_; (with_reducible refine (impl_MsgOk.calls k a0_0 _ _ l0_1 false _ ?side1 ?side2 A2.out).mono ?_); (case side1 => exact ca_ (Kd.C_below HR0_1.out HB.out)); (case side2 => exact HC0_1.out); rintro e w162 ⟨rfl, hb⟩; refine ⟨_, rfl, ?_⟩; replace BK304 := Aside0.mk (blk_below (bk_ BK304) hb); replace BK305 := Aside0.mk (blk_below (bk_ BK305) hb); replace HB := Aside0.mk (below_step bl_ hb); (try clear hb); (try clear hb2); (try clear hk); (try clear hi); obtain ⟨hcz163_0, hcz163_1, hcz163_2, hcz163_3, hcz163_4, hcz163_5, hcz163_6, hcz163_7, hfz163_0, hfz163_1, hfz163_2, hfz163_3, hfz163_4, hfz163_5, hfz163_6, hfz163_7⟩ := bx8_ BK305))
  refine bodyPost_ret (results_ct rfl _ _ gb305 27 #[.int .i64 0, .string (⟨#[]⟩ : ByteArray), .string (⟨#[]⟩ : ByteArray), .string (⟨#[]⟩ : ByteArray), .string (⟨#[]⟩ : ByteArray), .string (⟨#[]⟩ : ByteArray), .int .i64 0, .int .i64 0] (0, 0) _ rfl (by (with_reducible repeat (first | refine blk_drewN ?_ _ | refine blk_drew ?_ | refine blk_alloc ?_ _)); apply bq8_7_6_5_4_3_2_1_0_; (with_reducible repeat (first | refine blk_drewN ?_ _ | refine blk_drew ?_ | refine blk_alloc ?_ _)); exact BK305.out) Tryz.underlying27 rfl (by kernel_rfl)) rfl ?_
  exact ⟨sq_, bl_⟩
end Go.Proofs.YtohfefkjcnbejaaGreatDoor.QFnExactReqOf
