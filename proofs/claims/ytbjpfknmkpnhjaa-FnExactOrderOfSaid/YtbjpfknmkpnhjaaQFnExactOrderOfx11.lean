-- by my own printer (myprint.py, over the kit's print.py)
import Derived.Test.YtbjpfknmkpnhjaaQFnExactOrderOfx0
import Derived.Test.YtbjpfknmkpnhjaaQFnExactOrderOfx10
namespace Go.Proofs.Ytbjpfknmkpnhjaa.QFnExactOrderOf
open Go.RowKit Go.Proofs.YtbjpfknmkpnhjaaW.PrintWords Go.Proofs.YtbjpfknmkpnhjaaW.PrintLast Go.Proofs.YtbjpfknmkpnhjaaW.PrintMore
attribute [local go_sem] max2_int min2_int max_two min_two max_three min_three max_four min_four   -- for this text's walks alone
set_option linter.unusedVariables false
set_option linter.unusedSimpArgs false
attribute [local go_sem] my_geq my_leq my_gtr
/-! ### laws_markHoldS: function 43 -/
def laws_markHoldS.l0 : Nat → List (S95) → Int → Int → Option (Int × (List (S95)))
 | 0, _, _, _ => none
 | k + 1, x0, x1, x5 => if x5 < (x0.length : Int) then ((laws_markText.f k x1).bind fun t379 => (if 0 ≤ x5 then ((some (x0.set (x5 : Int).toNat (⟨t379, (rd_T95 x0 x5).f1, (rd_T95 x0 x5).f2⟩ : S95) : List (S95))).bind fun y380 => ((some (y380.set (x5 : Int).toNat (⟨(rd_T95 y380 x5).f0, wrap64 (x1 + 1), (rd_T95 y380 x5).f2⟩ : S95) : List (S95))).bind fun y381 => (laws_markHoldS.l0 k (y381.set (x5 : Int).toNat (⟨(rd_T95 y381 x5).f0, (rd_T95 y381 x5).f1, wrap64 ((wrap64 (x1 + 1)) + 1)⟩ : S95)) (wrap64 ((wrap64 ((wrap64 (x1 + 1)) + 1)) + 1)) (wrap64 (x5 + 1))))) else (none))) else (some (x1, x0))
def laws_markHoldS.f (k : Nat) (l0 : List (S95)) (a1 : Int) : Option (Int × (List (S95))) := laws_markHoldS.l0 k l0 a1 0
/-! ### laws_markByteS: function 31 -/
def laws_markByteS.l0 : Nat → List Int → Int → Int → Option (Int × List Int)
 | 0, _, _, _ => none
 | k + 1, x0, x1, x5 => if x5 < (x0.length : Int) then (if 0 ≤ x5 then (laws_markByteS.l0 k (x0.set (x5 : Int).toNat ((x1) % 256)) (wrap64 (x1 + 1)) (wrap64 (x5 + 1))) else (none)) else (some (x1, x0))
def laws_markByteS.f (k : Nat) (l0 : List Int) (a1 : Int) : Option (Int × List Int) := laws_markByteS.l0 k l0 a1 0
/-! ### laws_markSlotS: function 44 -/
def laws_markSlotS.l0 : Nat → List (S97) → Int → Int → Option (Int × (List (S97)))
 | 0, _, _, _ => none
 | k + 1, x0, x1, x5 => if x5 < (x0.length : Int) then (if 0 ≤ x5 then ((laws_markText.f k x1).bind fun t1 => ((laws_markText.f k (wrap64 (x1 + 1))).bind fun t2 => ((laws_markByteS.f k (rd_T97 x0 x5).f2 (wrap64 (wrap64 (x1 + 1) + 1))).bind fun r_ => (laws_markSlotS.l0 k (x0.set (x5 : Int).toNat (⟨t1, t2, r_.2⟩ : S97)) r_.1 (wrap64 (x5 + 1)))))) else (none)) else (some (x1, x0))
def laws_markSlotS.f (k : Nat) (l0 : List (S97)) (a1 : Int) : Option (Int × (List (S97))) := laws_markSlotS.l0 k l0 a1 0
/-! ### laws_markAcctS: function 30 -/
def Like : Value → Value → Prop
 | .string _, u => ∃ t, u = .string t
 | .int k _, u => ∃ x, u = .int k x
 | v, u => u = v
theorem Like.refl (v : Value) : Like v v := by cases v <;> first | exact ⟨_, rfl⟩ | rfl
/-- As W was, but for the texts and the numbers in its rows. -/
def Skel (W w : World) : Prop := W.heap.size ≤ w.heap.size ∧ ∀ (g : Nat) (cur : Array Value) (e : TypeId), W.heap[g]? = some (.cells cur e (0, 0)) → ∃ cur' : Array Value, w.heap[g]? = some (.cells cur' e (0, 0)) ∧ ∀ (j : Nat) (v : Value), cur[j]? = some v → ∃ u, cur'[j]? = some u ∧ Like v u
theorem Skel.refl (W : World) : Skel W W := ⟨Nat.le_refl _, fun g cur e h => ⟨cur, h, fun j v hj => ⟨v, hj, Like.refl v⟩⟩⟩
theorem Skel.below {W w w1 : World} (h : Skel W w) (hb : Below w.heap.size w w1) : Skel W w1 :=
 ⟨Nat.le_trans h.1 hb.size, fun g cur e hg => by
  obtain ⟨cur', h1, h2⟩ := h.2 g cur e hg
  refine ⟨cur', ?_, h2⟩
  have hlt : g < w.heap.size := by
   rcases Nat.lt_or_ge g w.heap.size with hl | hl
   ·exact hl
   ·rw [Array.getElem?_eq_none hl] at h1; cases h1
  rw [hb.block g hlt, h1]⟩
theorem Skel.set {W w : World} {g j : Nat} {cur : Array Value} {e : TypeId} {v u : Value} (h : Skel W w) (hg : W.heap[g]? = some (.cells cur e (0, 0))) (hj : cur[j]? = some v) (hl : Like v u) : Skel W (w.setCell ⟨g, j, none⟩ u) :=
 ⟨by simp [World.setCell]; exact h.1, fun g2 cur2 e2 hg2 => by
  obtain ⟨cur', h1, h2⟩ := h.2 g2 cur2 e2 hg2
  by_cases hq : g2 = g
  ·subst hq
   obtain rfl : cur2 = cur := by rw [hg] at hg2; injection hg2 with hg2; injection hg2 with hg2 _; exact hg2.symm
   refine ⟨cur'.setIfInBounds j u, by simp [World.setCell, Array.getElem?_modify, h1], fun i x hi => ?_⟩
   obtain ⟨y, hy, hxy⟩ := h2 i x hi
   by_cases hij : i = j
   ·subst hij
    rw [hj] at hi
    injection hi with hi
    subst hi
    have hlt : i < cur'.size := by
     rcases Nat.lt_or_ge i cur'.size with hq | hq
     ·exact hq
     ·rw [Array.getElem?_eq_none hq] at hy; cases hy
    exact ⟨u, Array.getElem?_setIfInBounds_self_of_lt hlt, hl⟩
   ·exact ⟨y, by rw [Array.getElem?_setIfInBounds_ne (by omega)]; exact hy, hxy⟩
  ·refine ⟨cur', by simp [World.setCell, Array.getElem?_modify, Ne.symm hq, h1], h2⟩⟩
theorem Skel.cell {W w : World} {g j : Nat} {cur : Array Value} {e : TypeId} {v : Value} (h : Skel W w) (hg : W.heap[g]? = some (.cells cur e (0, 0))) (hj : cur[j]? = some v) : ∃ u, w.cell? ⟨g, j, none⟩ = some u ∧ Like v u := by
 obtain ⟨cur', h1, h2⟩ := h.2 g cur e hg
 obtain ⟨u, hu, hl⟩ := h2 j v hj
 exact ⟨u, by simp [World.cell?, h1, hu], hl⟩
theorem Skel.slice {W w : World} {g j n c : Nat} {cur : Array Value} {e : TypeId} {A : Option Addr} (h : Skel W w) (hg : W.heap[g]? = some (.cells cur e (0, 0))) (hj : cur[j]? = some (.slice A n c)) : w.cell? ⟨g, j, none⟩ = some (.slice A n c) := by
 obtain ⟨u, hu, hl⟩ := Skel.cell h hg hj
 rw [hu, show u = _ from hl]
theorem Skel.frozen {W w : World} {g : Nat} {cur : Array Value} {e : TypeId} (h : Skel W w) (hg : W.heap[g]? = some (.cells cur e (0, 0))) (j : Nat) : w.frozen? ⟨g, j, none⟩ = false := by
 obtain ⟨cur', h1, h2⟩ := h.2 g cur e hg
 simp [World.frozen?, h1]
/-- An element's cells, as they were. -/
def SkE (W : World) (g m : Nat) (c : List Value) : Prop := ∃ (cur : Array Value) (e : TypeId), W.heap[g]? = some (.cells cur e (0, 0)) ∧ ∀ j u, c[j]? = some u → cur[m + j]? = some u
/-- What every step of a mark leaves true. -/
structure SkB (W0 w w0 : World) (P0 : Nat → Prop) (X : World) : Prop where
 s : Skel W0 X
 k : Kept w X P0
 b : Below w0.heap.size w0 X
section
variable {W0 w w0 X X1 : World} {P0 : Nat → Prop} {g m j n cc : Nat} {c : List Value} {u v : Value} {A : Option Addr}
theorem SkB.put (h : SkB W0 w w0 P0 X) (he : SkE W0 g m c) (hp : P0 g) (hg : w0.heap.size ≤ g) (hj : c[j]? = some v) (hl : Like v u) : SkB W0 w w0 P0 (X.setCell ⟨g, m + j, none⟩ u) := by
 obtain ⟨cur, e, h1, h2⟩ := he
 exact ⟨Skel.set h.s h1 (h2 j v hj) hl, h.k.setCell (.inl hp) u, below_set h.b hg⟩
theorem SkB.below (h : SkB W0 w w0 P0 X) (hb : Below X.heap.size X X1) : SkB W0 w w0 P0 X1 := ⟨Skel.below h.s hb, h.k.below hb, below_then h.b h.b.size hb⟩
theorem SkB.mark (h : SkB W0 w w0 P0 X) (h1 : Skel W0 X1) (h2 : Below w0.heap.size w0 X1) (h3 : Kept X X1 P0) : SkB W0 w w0 P0 X1 := ⟨h1, h.k.then_ h3 (fun _ hk => .inl hk), h2⟩
theorem SkB.cell (h : SkB W0 w w0 P0 X) (he : SkE W0 g m c) (hj : c[j]? = some v) : ∃ u, X.cell? ⟨g, m + j, none⟩ = some u := by
 obtain ⟨cur, e, h1, h2⟩ := he
 obtain ⟨u, hu, _⟩ := Skel.cell h.s h1 (h2 j v hj)
 exact ⟨u, hu⟩
theorem SkB.slice (h : SkB W0 w w0 P0 X) (he : SkE W0 g m c) (hj : c[j]? = some (.slice A n cc)) : X.cell? ⟨g, m + j, none⟩ = some (.slice A n cc) := by
 obtain ⟨cur, e, h1, h2⟩ := he
 exact Skel.slice h.s h1 (h2 j _ hj)
theorem SkB.frozen (h : SkB W0 w w0 P0 X) (he : SkE W0 g m c) : ∀ j, X.frozen? ⟨g, j, none⟩ = false := by
 obtain ⟨cur, e, h1, h2⟩ := he
 exact Skel.frozen h.s h1
end
theorem mwid {x : Int} (h0 : 0 ≤ x) (h1 : x ≤ 9000000000000000000) : wrap64 x = x := by unfold wrap64; omega
theorem mkt_l0 : ∀ (f : Nat) (x : Int) (s : ByteArray), 0 ≤ x → x < 10 ^ f → x ≤ 9223372036854775807 → s.size + f ≤ 1000 → ∃ t, laws_markText.l0 (f + 1) x s = some t
 | 0, x, s, h0, h1, h2, h3 => by
  have h1' : x < 1 := h1
  simp only [laws_markText.l0]
  rw [if_neg (show ¬ x > 0 by omega), if_pos (by omega)]
  exact ⟨_, rfl⟩
 | f + 1, x, s, h0, h1, h2, h3 => by
  rw [laws_markText.l0]
  by_cases hx : x > 0
  ·rw [if_pos hx, Option.bind_some]
   have hs : (strOfNums [(wrap64 (48 + (Int.tmod x 10))) % 256]).size = 1 := rfl
   have hd : x.tdiv 10 = x / 10 := Int.tdiv_eq_ediv_of_nonneg h0
   have hp : (10 : Int) ^ (f + 1) = 10 ^ f * 10 := Int.pow_succ _ _
   rw [hp] at h1
   rw [if_pos (by rw [hs]; omega), mwid (by rw [hd]; omega) (by rw [hd]; omega)]
   exact mkt_l0 f _ _ (by rw [hd]; omega) (by rw [hd]; omega) (by rw [hd]; omega) (by rw [ByteArray.size_append, hs]; omega)
  ·rw [if_neg hx, if_pos (by omega)]
   exact ⟨_, rfl⟩
theorem mkt_tot (x : Int) (h : x ≤ 9223372036854775807) : ∃ t, laws_markText.f 20 x = some t := by
 unfold laws_markText.f
 by_cases h0 : x ≤ 0
 ·rw [if_pos h0]; exact ⟨_, rfl⟩
 ·rw [if_neg h0]; exact mkt_l0 19 x _ (by omega) (by omega) (by omega) (by decide)
def mwL {α : Type} (f : α → Nat) (l : List α) : Nat := (l.map f).sum
theorem mwL_step {α : Type} (f : α → Nat) (l : List α) (z : α) (i : Int) (h0 : 0 ≤ i) (h1 : i < (l.length : Int)) : mwL f (l.take (i + 1).toNat) = mwL f (l.take i.toNat) + f (l.getD i.toNat z) := by
 have e : (i + 1).toNat = i.toNat + 1 := by omega
 have hi : i.toNat < l.length := by omega
 rw [e, List.take_add_one, List.getElem?_eq_getElem hi]
 unfold mwL
 rw [List.map_append, List.sum_append]
 simp [hi]
theorem mwL_le {α : Type} (f : α → Nat) : ∀ (l : List α) (n : Nat), mwL f (l.take n) ≤ mwL f l
 | [], n => by simp [mwL]
 | x :: l, 0 => by simp [mwL]
 | x :: l, n + 1 => by
  have := mwL_le f l n
  simp only [mwL, List.take_succ_cons, List.map_cons, List.sum_cons] at *
  omega
theorem mkt_call (a : Int) (w : World) (h : a ≤ 9223372036854775807) : Calls Try.prog 42 #[.int .i64 a] w fun e w' => ∃ t, e = .returned (.string t) ∧ Below w.heap.size w w' := by
 obtain ⟨t, ht⟩ := mkt_tot a h
 exact (laws_markText.calls 20 a t w ht).mono (fun e w' he => ⟨t, he.1, he.2⟩)
theorem mw_le (x : Int) : wrap64 x ≤ 9223372036854775807 := by unfold wrap64; omega
theorem mwL_len {α : Type} (f : α → Nat) (hf : ∀ x, 1 ≤ f x) : ∀ l : List α, l.length ≤ mwL f l
 | [] => by simp
 | x :: l => by
  have := mwL_len f hf l
  have := hf x
  simp only [mwL, List.length_cons, List.map_cons, List.sum_cons] at *
  omega
theorem sk_elem {α : Type} {d : Kd α} {e : Nat} {W : World} {base : Nat} {ok : Nat → Prop} {A : Option Addr} {n cap : Nat} {xs : List α} (h : d.R e W base ok (.slice A n cap) xs) (z : α) (i : Int) (h0 : 0 ≤ i) (h1 : i < (n : Int)) :
  ∃ (g : Nat) (c : List Value), A = some ⟨g, 0, none⟩ ∧ d.M W base ok (xs.getD i.toNat z) c ∧ SkE W g (i.toNat * d.sz) c ∧ ok g ∧ base ≤ g := by
 have hn := (Kd.R_reads' h).1
 obtain ⟨g, cap', hv, hb, hlt, cur, hg⟩ := Kd.R_form h (by omega)
 injection hv with ha hb2 hc
 subst ha
 obtain ⟨c, hcl, hM, hcc, _⟩ := Kd.R_elem h z i h0 h1
 refine ⟨g, c, rfl, d.M_mono (fun k hk => hk.1) hM, ⟨cur, e, hg, fun j u hu => ?_⟩, h.1 g (by simp [Value.ownBlock]), hb⟩
 have := hcc j u hu
 simpa [World.cell?, hg] using this
def mw1 (_ : Int) : Nat := 1
def mw95 (_ : S95) : Nat := 3
set_option maxHeartbeats 8000000 in
set_option maxRecDepth 100000 in
theorem laws_markHoldS.skel (W0 : World) (P0_ : Nat → Prop) (base : Nat) (A0 : Option Addr) (c0 : Nat) (l0 : List (S95)) (a1 : Int) (w0 w : World) (hR : Kd.R k95 95 W0 base P0_ (.slice A0 l0.length c0) l0) (hS : Skel W0 w) (hB : Below w0.heap.size w0 w) (hb : w0.heap.size ≤ base) (h0 : 0 ≤ a1) (h1 : a1 + (mwL mw95 l0 : Nat) ≤ 9000000000000000000) :
  Calls Try.prog 43 #[.slice A0 l0.length c0, .int .i64 a1] w fun e w' => e = .returned (.int .i64 (a1 + (mwL mw95 l0 : Nat))) ∧ Skel W0 w' ∧ Below w0.heap.size w0 w' ∧ Kept w w' P0_ := by
 have hll := mwL_len mw95 (fun _ => by unfold mw95; omega) l0
 have hu77 := Try.underlying77
 have HR := Aside0.mk hR
 have HS := Aside0.mk (SkB.mk (P0 := P0_) hS (Kept.refl w P0_) hB)
 have HZ := Aside0.mk (show w0.heap.size ≤ base ∧ 0 ≤ a1 ∧ a1 + (mwL mw95 l0 : Nat) ≤ 9000000000000000000 ∧ l0.length ≤ mwL mw95 l0 from ⟨hb, h0, h1, hll⟩)
 clear hR hS hB hb h0 h1 hll
 go_enter Try.func43, Try.ntmps43
 go_wp2
 go_loopg [1, 5] (l0.length) (fun kq v1 v5 w' => ∃ (x1 : Int) (x5 : Int), v1 = .int .i64 x1 ∧ v5 = .int .i64 x5 ∧ Aside0 (0 ≤ x5 ∧ x5 ≤ (l0.length : Int) ∧ (kq : Int) = (l0.length : Int) - x5 ∧ x1 = a1 + (mwL mw95 (l0.take x5.toNat) : Nat)) ∧ Aside0 (SkB W0 w w0 P0_ w'))
 case atStart => exact ⟨a1, 0, rfl, rfl, ⟨by omega, by omega, by omega, by simp [mwL]⟩, HS⟩
 case round =>
  clear HS
  obtain ⟨x1, x5, rfl, rfl, HX, HS0⟩ := hrel
  obtain ⟨hx0, hx1, hx2, hx3⟩ := HX.out
  by_cases c1 : x5 < (l0.length : Int)
  ·obtain ⟨g, c, rfl, hM, he, hP, hbg⟩ := sk_elem HR.out z95 x5 hx0 c1
   have hM' : k95.M W0 base P0_ (rd_T95 l0 x5) c := hM
   clear hM
   have hM := hM'
   clear hM'
   obtain rfl := k95_openM hM
   have hmw := mwL_step mw95 l0 z95 x5 hx0 c1
   have hml := mwL_le mw95 l0 (x5 + 1).toNat
   have hme : mw95 (l0.getD x5.toNat z95) = 3 := rfl
   have hz := HZ.out
   have w5 : wrap64 (x5 + 1) = x5 + 1 := mwid (by omega) (by omega)
   have HHE := Aside0.mk he
   have p0 := eq_true hx0
   have q0 := eq_true c1
   have HP := Aside0.mk hP
   have HBG := Aside0.mk (Nat.le_trans hz.1 hbg)
   have HMW := Aside0.mk (And.intro hmw (And.intro hml (And.intro hme (And.intro hx0 (And.intro c1 (And.intro hx2 hx3))))))
   have W5 := Aside0.mk w5
   clear he hP hbg c1 hmw hml hme hz w5 hx2 hx3 HX hx0 hx1
   go_wp2_with (first | (go_at_call 42; (with_reducible refine (mkt_call _ _ ?hE).mono ?_); (case hE => first | exact mw_le _ | (have h := HMW.out; have h2 := HZ.out; omega)); rintro e wa ⟨t0, rfl, hb⟩; have HS1 := Aside0.mk (SkB.below HS0.out hb); clear hb; obtain ⟨u0, hc0⟩ : ∃ u, wa.cell? ⟨g, x5.toNat * 3, none⟩ = some u := SkB.cell (m := x5.toNat * 3) HS1.out HHE.out (j := 0) rfl; obtain ⟨u1, hc1⟩ : ∃ u, wa.cell? ⟨g, x5.toNat * 3 + 1, none⟩ = some u := SkB.cell (m := x5.toNat * 3) HS1.out HHE.out (j := 1) rfl; obtain ⟨u2, hc2⟩ : ∃ u, wa.cell? ⟨g, x5.toNat * 3 + 2, none⟩ = some u := SkB.cell (m := x5.toNat * 3) HS1.out HHE.out (j := 2) rfl; have hf := SkB.frozen HS1.out HHE.out))
   go_roundg (gk - 1)
   case measure => have h := HMW.out; have h2 := HZ.out; omega
   case rel =>
    refine ⟨_, _, rfl, rfl, ⟨?_⟩, ⟨?_⟩⟩
    ·have h := HMW.out
     have h2 := HZ.out
     have h3 := W5.out
     rw [h3]
     refine ⟨by omega, by omega, by omega, ?_⟩
     unfold wrap64
     omega
    ·exact (SkB.put (m := x5.toNat * 3) (SkB.put (m := x5.toNat * 3) (SkB.put (m := x5.toNat * 3) HS1.out HHE.out HP.out HBG.out (j := 0) rfl ⟨_, rfl⟩) HHE.out HP.out HBG.out (j := 1) rfl ⟨_, rfl⟩) HHE.out HP.out HBG.out (j := 2) rfl ⟨_, rfl⟩)
  ·have d0 : decide (x5 < (l0.length : Int)) = false := decide_eq_false c1
   have hz := HZ.out
   obtain rfl : x5 = (l0.length : Int) := by omega
   have e1 : x1 = a1 + (mwL mw95 l0 : Nat) := by rw [hx3, Int.toNat_natCast, List.take_length]
   subst e1
   clear c1 HX hx0 hx1 hx2 hx3 hz
   go_wp2
   go_ret
   exact ⟨rfl, HS0.out.s, HS0.out.b, HS0.out.k⟩
set_option maxHeartbeats 8000000 in
set_option maxRecDepth 100000 in
theorem laws_markIntS.skel (W0 : World) (P0_ : Nat → Prop) (base : Nat) (A0 : Option Addr) (c0 : Nat) (l0 : List (Int)) (a1 : Int) (w0 w : World) (hR : Kd.R (Kd.int .i64) 3 W0 base P0_ (.slice A0 l0.length c0) l0) (hS : Skel W0 w) (hB : Below w0.heap.size w0 w) (hb : w0.heap.size ≤ base) (h0 : 0 ≤ a1) (h1 : a1 + (mwL mw1 l0 : Nat) ≤ 9000000000000000000) :
  Calls Try.prog 11 #[.slice A0 l0.length c0, .int .i64 a1] w fun e w' => e = .returned (.int .i64 (a1 + (mwL mw1 l0 : Nat))) ∧ Skel W0 w' ∧ Below w0.heap.size w0 w' ∧ Kept w w' P0_ := by
 have hll := mwL_len mw1 (fun _ => Nat.le_refl _) l0
 have hu27 := Try.underlying27
 have HR := Aside0.mk hR
 have HS := Aside0.mk (SkB.mk (P0 := P0_) hS (Kept.refl w P0_) hB)
 have HZ := Aside0.mk (show w0.heap.size ≤ base ∧ 0 ≤ a1 ∧ a1 + (mwL mw1 l0 : Nat) ≤ 9000000000000000000 ∧ l0.length ≤ mwL mw1 l0 from ⟨hb, h0, h1, hll⟩)
 clear hR hS hB hb h0 h1 hll
 go_enter Try.func11, Try.ntmps11
 go_wp2
 go_loopg [1, 5] (l0.length) (fun kq v1 v5 w' => ∃ (x1 : Int) (x5 : Int), v1 = .int .i64 x1 ∧ v5 = .int .i64 x5 ∧ Aside0 (0 ≤ x5 ∧ x5 ≤ (l0.length : Int) ∧ (kq : Int) = (l0.length : Int) - x5 ∧ x1 = a1 + (mwL mw1 (l0.take x5.toNat) : Nat)) ∧ Aside0 (SkB W0 w w0 P0_ w'))
 case atStart => exact ⟨a1, 0, rfl, rfl, ⟨by omega, by omega, by omega, by simp [mwL]⟩, HS⟩
 case round =>
  clear HS
  obtain ⟨x1, x5, rfl, rfl, HX, HS0⟩ := hrel
  obtain ⟨hx0, hx1, hx2, hx3⟩ := HX.out
  by_cases c1 : x5 < (l0.length : Int)
  ·obtain ⟨g, c, rfl, hM, he, hP, hbg⟩ := sk_elem HR.out (0 : Int) x5 hx0 c1
   obtain rfl : c = [.int .i64 (l0.getD x5.toNat 0)] := hM
   have hmw := mwL_step mw1 l0 (0 : Int) x5 hx0 c1
   have hml := mwL_le mw1 l0 (x5 + 1).toNat
   have hme : mw1 (l0.getD x5.toNat (0 : Int)) = 1 := rfl
   have hz := HZ.out
   have w5 : wrap64 (x5 + 1) = x5 + 1 := mwid (by omega) (by omega)
   rw [show x5.toNat * Kd.sz (Kd.int .i64) = x5.toNat from Nat.mul_one _] at he
   have HHE := Aside0.mk he
   have p0 := eq_true hx0
   have q0 := eq_true c1
   have HP := Aside0.mk hP
   have HBG := Aside0.mk (Nat.le_trans hz.1 hbg)
   have HMW := Aside0.mk (And.intro hmw (And.intro hml (And.intro hme (And.intro hx0 (And.intro c1 (And.intro hx2 hx3))))))
   have W5 := Aside0.mk w5
   obtain ⟨u0, hc0⟩ : ∃ u, wr.cell? ⟨g, x5.toNat, none⟩ = some u := SkB.cell (m := x5.toNat) HS0.out HHE.out (j := 0) rfl
   have hf := SkB.frozen HS0.out HHE.out
   clear he hP hbg c1 hmw hml hme hz w5 hx2 hx3 HX hx0 hx1
   go_wp2
   go_roundg (gk - 1)
   case measure => have h := HMW.out; have h2 := HZ.out; omega
   case rel =>
    refine ⟨_, _, rfl, rfl, ⟨?_⟩, ⟨?_⟩⟩
    ·have h := HMW.out
     have h2 := HZ.out
     have h3 := W5.out
     rw [h3]
     refine ⟨by omega, by omega, by omega, ?_⟩
     unfold wrap64
     omega
    ·exact (SkB.put (m := x5.toNat) HS0.out HHE.out HP.out HBG.out (j := 0) rfl ⟨_, rfl⟩)
  ·have d0 : decide (x5 < (l0.length : Int)) = false := decide_eq_false c1
   have hz := HZ.out
   obtain rfl : x5 = (l0.length : Int) := by omega
   have e1 : x1 = a1 + (mwL mw1 l0 : Nat) := by rw [hx3, Int.toNat_natCast, List.take_length]
   subst e1
   clear c1 HX hx0 hx1 hx2 hx3 hz
   go_wp2
   go_ret
   exact ⟨rfl, HS0.out.s, HS0.out.b, HS0.out.k⟩
set_option maxHeartbeats 8000000 in
set_option maxRecDepth 100000 in
theorem laws_markByteS.skel (W0 : World) (P0_ : Nat → Prop) (base : Nat) (A0 : Option Addr) (c0 : Nat) (l0 : List (Int)) (a1 : Int) (w0 w : World) (hR : Kd.R (Kd.int .u8) 5 W0 base P0_ (.slice A0 l0.length c0) l0) (hS : Skel W0 w) (hB : Below w0.heap.size w0 w) (hb : w0.heap.size ≤ base) (h0 : 0 ≤ a1) (h1 : a1 + (mwL mw1 l0 : Nat) ≤ 9000000000000000000) :
  Calls Try.prog 31 #[.slice A0 l0.length c0, .int .i64 a1] w fun e w' => e = .returned (.int .i64 (a1 + (mwL mw1 l0 : Nat))) ∧ Skel W0 w' ∧ Below w0.heap.size w0 w' ∧ Kept w w' P0_ := by
 have hll := mwL_len mw1 (fun _ => Nat.le_refl _) l0
 have hu41 := Try.underlying41
 have HR := Aside0.mk hR
 have HS := Aside0.mk (SkB.mk (P0 := P0_) hS (Kept.refl w P0_) hB)
 have HZ := Aside0.mk (show w0.heap.size ≤ base ∧ 0 ≤ a1 ∧ a1 + (mwL mw1 l0 : Nat) ≤ 9000000000000000000 ∧ l0.length ≤ mwL mw1 l0 from ⟨hb, h0, h1, hll⟩)
 clear hR hS hB hb h0 h1 hll
 go_enter Try.func31, Try.ntmps31
 go_wp2
 go_loopg [1, 5] (l0.length) (fun kq v1 v5 w' => ∃ (x1 : Int) (x5 : Int), v1 = .int .i64 x1 ∧ v5 = .int .i64 x5 ∧ Aside0 (0 ≤ x5 ∧ x5 ≤ (l0.length : Int) ∧ (kq : Int) = (l0.length : Int) - x5 ∧ x1 = a1 + (mwL mw1 (l0.take x5.toNat) : Nat)) ∧ Aside0 (SkB W0 w w0 P0_ w'))
 case atStart => exact ⟨a1, 0, rfl, rfl, ⟨by omega, by omega, by omega, by simp [mwL]⟩, HS⟩
 case round =>
  clear HS
  obtain ⟨x1, x5, rfl, rfl, HX, HS0⟩ := hrel
  obtain ⟨hx0, hx1, hx2, hx3⟩ := HX.out
  by_cases c1 : x5 < (l0.length : Int)
  ·obtain ⟨g, c, rfl, hM, he, hP, hbg⟩ := sk_elem HR.out (0 : Int) x5 hx0 c1
   obtain rfl : c = [.int .u8 (l0.getD x5.toNat 0)] := hM
   have hmw := mwL_step mw1 l0 (0 : Int) x5 hx0 c1
   have hml := mwL_le mw1 l0 (x5 + 1).toNat
   have hme : mw1 (l0.getD x5.toNat (0 : Int)) = 1 := rfl
   have hz := HZ.out
   have w5 : wrap64 (x5 + 1) = x5 + 1 := mwid (by omega) (by omega)
   rw [show x5.toNat * Kd.sz (Kd.int .u8) = x5.toNat from Nat.mul_one _] at he
   have HHE := Aside0.mk he
   have p0 := eq_true hx0
   have q0 := eq_true c1
   have HP := Aside0.mk hP
   have HBG := Aside0.mk (Nat.le_trans hz.1 hbg)
   have HMW := Aside0.mk (And.intro hmw (And.intro hml (And.intro hme (And.intro hx0 (And.intro c1 (And.intro hx2 hx3))))))
   have W5 := Aside0.mk w5
   obtain ⟨u0, hc0⟩ : ∃ u, wr.cell? ⟨g, x5.toNat, none⟩ = some u := SkB.cell (m := x5.toNat) HS0.out HHE.out (j := 0) rfl
   have hf := SkB.frozen HS0.out HHE.out
   clear he hP hbg c1 hmw hml hme hz w5 hx2 hx3 HX hx0 hx1
   go_wp2
   go_roundg (gk - 1)
   case measure => have h := HMW.out; have h2 := HZ.out; omega
   case rel =>
    refine ⟨_, _, rfl, rfl, ⟨?_⟩, ⟨?_⟩⟩
    ·have h := HMW.out
     have h2 := HZ.out
     have h3 := W5.out
     rw [h3]
     refine ⟨by omega, by omega, by omega, ?_⟩
     unfold wrap64
     omega
    ·exact (SkB.put (m := x5.toNat) HS0.out HHE.out HP.out HBG.out (j := 0) rfl ⟨_, rfl⟩)
  ·have d0 : decide (x5 < (l0.length : Int)) = false := decide_eq_false c1
   have hz := HZ.out
   obtain rfl : x5 = (l0.length : Int) := by omega
   have e1 : x1 = a1 + (mwL mw1 l0 : Nat) := by rw [hx3, Int.toNat_natCast, List.take_length]
   subst e1
   clear c1 HX hx0 hx1 hx2 hx3 hz
   go_wp2
   go_ret
   exact ⟨rfl, HS0.out.s, HS0.out.b, HS0.out.k⟩
def mw97 (x : S97) : Nat := 2 + mwL mw1 x.f2
set_option maxHeartbeats 8000000 in
set_option maxRecDepth 100000 in
theorem laws_markSlotS.skel (W0 : World) (P0_ : Nat → Prop) (base : Nat) (A0 : Option Addr) (c0 : Nat) (l0 : List (S97)) (a1 : Int) (w0 w : World) (hR : Kd.R k97 97 W0 base P0_ (.slice A0 l0.length c0) l0) (hS : Skel W0 w) (hB : Below w0.heap.size w0 w) (hb : w0.heap.size ≤ base) (h0 : 0 ≤ a1) (h1 : a1 + (mwL mw97 l0 : Nat) ≤ 9000000000000000000) :
  Calls Try.prog 44 #[.slice A0 l0.length c0, .int .i64 a1] w fun e w' => e = .returned (.int .i64 (a1 + (mwL mw97 l0 : Nat))) ∧ Skel W0 w' ∧ Below w0.heap.size w0 w' ∧ Kept w w' P0_ := by
 have hll := mwL_len mw97 (fun _ => by unfold mw97; omega) l0
 have hu80 := Try.underlying80
 have HR := Aside0.mk hR
 have HS := Aside0.mk (SkB.mk (P0 := P0_) hS (Kept.refl w P0_) hB)
 have HZ := Aside0.mk (show w0.heap.size ≤ base ∧ 0 ≤ a1 ∧ a1 + (mwL mw97 l0 : Nat) ≤ 9000000000000000000 ∧ l0.length ≤ mwL mw97 l0 from ⟨hb, h0, h1, hll⟩)
 clear hR hS hB hb h0 h1 hll
 go_enter Try.func44, Try.ntmps44
 go_wp2
 go_loopg [1, 5] (l0.length) (fun kq v1 v5 w' => ∃ (x1 : Int) (x5 : Int), v1 = .int .i64 x1 ∧ v5 = .int .i64 x5 ∧ Aside0 (0 ≤ x5 ∧ x5 ≤ (l0.length : Int) ∧ (kq : Int) = (l0.length : Int) - x5 ∧ x1 = a1 + (mwL mw97 (l0.take x5.toNat) : Nat)) ∧ Aside0 (SkB W0 w w0 P0_ w'))
 case atStart => exact ⟨a1, 0, rfl, rfl, ⟨by omega, by omega, by omega, by simp [mwL]⟩, HS⟩
 case round =>
  clear HS
  obtain ⟨x1, x5, rfl, rfl, HX, HS0⟩ := hrel
  obtain ⟨hx0, hx1, hx2, hx3⟩ := HX.out
  by_cases c1 : x5 < (l0.length : Int)
  ·obtain ⟨g, c, rfl, hM, he, hP, hbg⟩ := sk_elem HR.out z97 x5 hx0 c1
   have hM' : k97.M W0 base P0_ (rd_T97 l0 x5) c := hM
   clear hM
   have hM := hM'
   clear hM'
   obtain ⟨v2, rfl, r2⟩ := k97_openM hM
   obtain ⟨Ar2, cr2, rfl⟩ := Kd.R_slice r2
   have HR2 := Aside0.mk r2
   have hmw := mwL_step mw97 l0 z97 x5 hx0 c1
   have hml := mwL_le mw97 l0 (x5 + 1).toNat
   have hme : mw97 (l0.getD x5.toNat z97) = 2 + mwL mw1 (rd_T97 l0 x5).f2 := rfl
   have hz := HZ.out
   have w5 : wrap64 (x5 + 1) = x5 + 1 := mwid (by omega) (by omega)
   have HHE := Aside0.mk he
   have p0 := eq_true hx0
   have q0 := eq_true c1
   have HP := Aside0.mk hP
   have HBG := Aside0.mk (Nat.le_trans hz.1 hbg)
   have HMW := Aside0.mk (And.intro hmw (And.intro hml (And.intro hme (And.intro hx0 (And.intro c1 (And.intro hx2 hx3))))))
   have W5 := Aside0.mk w5
   clear he hP hbg c1 hmw hml hme hz w5 hx2 hx3 HX hx0 hx1 r2
   go_wp2_with (first | (go_at_call 42; (with_reducible refine (mkt_call _ _ ?hE).mono ?_); (case hE => first | exact mw_le _ | (have h := HMW.out; have h2 := HZ.out; omega)); rintro e wa ⟨t0, rfl, hb⟩; have HS1 := Aside0.mk (SkB.below HS0.out hb); clear hb; obtain ⟨u0, hc0⟩ : ∃ u, wa.cell? ⟨g, x5.toNat * 3, none⟩ = some u := SkB.cell (m := x5.toNat * 3) HS1.out HHE.out (j := 0) rfl; have hf := SkB.frozen HS1.out HHE.out) | (go_at_call 42; (with_reducible refine (mkt_call _ _ ?hE).mono ?_); (case hE => first | exact mw_le _ | (have h := HMW.out; have h2 := HZ.out; omega)); rintro e wb ⟨t1, rfl, hb⟩; have HS2 := Aside0.mk (SkB.below (SkB.put (m := x5.toNat * 3) HS1.out HHE.out HP.out HBG.out (j := 0) rfl ⟨_, rfl⟩) hb); clear hb hc0 hf; obtain ⟨u1, hc1⟩ : ∃ u, wb.cell? ⟨g, x5.toNat * 3 + 1, none⟩ = some u := SkB.cell (m := x5.toNat * 3) HS2.out HHE.out (j := 1) rfl; have hc2 : wb.cell? ⟨g, x5.toNat * 3 + 2, none⟩ = some (.slice Ar2 (rd_T97 l0 x5).f2.length cr2) := SkB.slice (m := x5.toNat * 3) HS2.out HHE.out (j := 2) rfl; have hf := SkB.frozen HS2.out HHE.out) | (go_at_call 31; (with_reducible refine (laws_markByteS.skel W0 P0_ base _ _ (rd_T97 l0 x5).f2 _ w0 _ ?hR ?hS ?hB ?hb ?h0 ?h1).mono ?_); (case hR => exact HR2.out); (case hS => exact ((SkB.put (m := x5.toNat * 3) HS2.out HHE.out HP.out HBG.out (j := 1) rfl ⟨_, rfl⟩)).s); (case hB => exact ((SkB.put (m := x5.toNat * 3) HS2.out HHE.out HP.out HBG.out (j := 1) rfl ⟨_, rfl⟩)).b); (case hb => exact HZ.out.1); (case h0 => have h := HMW.out; have h2 := HZ.out; (try unfold wrap64); omega); (case h1 => have h := HMW.out; have h2 := HZ.out; (try unfold wrap64); omega); rintro e wc ⟨rfl, hs, hb, hk⟩; have HS3 := Aside0.mk (SkB.mark (SkB.put (m := x5.toNat * 3) HS2.out HHE.out HP.out HBG.out (j := 1) rfl ⟨_, rfl⟩) hs hb hk); clear hs hb hk hc1 hc2 hf))
   go_roundg (gk - 1)
   case measure => have h := HMW.out; have h2 := HZ.out; omega
   case rel =>
    refine ⟨_, _, rfl, rfl, ⟨?_⟩, ⟨?_⟩⟩
    ·have h := HMW.out
     have h2 := HZ.out
     have h3 := W5.out
     rw [h3]
     refine ⟨by omega, by omega, by omega, ?_⟩
     unfold wrap64
     omega
    ·exact HS3.out
  ·have d0 : decide (x5 < (l0.length : Int)) = false := decide_eq_false c1
   have hz := HZ.out
   obtain rfl : x5 = (l0.length : Int) := by omega
   have e1 : x1 = a1 + (mwL mw97 l0 : Nat) := by rw [hx3, Int.toNat_natCast, List.take_length]
   subst e1
   clear c1 HX hx0 hx1 hx2 hx3 hz
   go_wp2
   go_ret
   exact ⟨rfl, HS0.out.s, HS0.out.b, HS0.out.k⟩
def mw82 (x : S82) : Nat := 7 + mwL mw95 x.f5 + mwL mw1 x.f6.f2 + mwL mw1 x.f6.f3 + mwL mw97 x.f7
set_option maxHeartbeats 8000000 in
set_option maxRecDepth 100000 in
theorem laws_markAcctS.skel (W0 : World) (P0_ : Nat → Prop) (base : Nat) (A0 : Option Addr) (c0 : Nat) (l0 : List (S82)) (a1 : Int) (w0 w : World) (hR : Kd.R k82 82 W0 base P0_ (.slice A0 l0.length c0) l0) (hS : Skel W0 w) (hB : Below w0.heap.size w0 w) (hb : w0.heap.size ≤ base) (h0 : 0 ≤ a1) (h1 : a1 + (mwL mw82 l0 : Nat) ≤ 9000000000000000000) :
  Calls Try.prog 30 #[.slice A0 l0.length c0, .int .i64 a1] w fun e w' => e = .returned (.int .i64 (a1 + (mwL mw82 l0 : Nat))) ∧ Skel W0 w' ∧ Below w0.heap.size w0 w' ∧ Kept w w' P0_ := by
 have hll := mwL_len mw82 (fun _ => by unfold mw82; omega) l0
 have hu58 := Try.underlying58
 have HR := Aside0.mk hR
 have HS := Aside0.mk (SkB.mk (P0 := P0_) hS (Kept.refl w P0_) hB)
 have HZ := Aside0.mk (show w0.heap.size ≤ base ∧ 0 ≤ a1 ∧ a1 + (mwL mw82 l0 : Nat) ≤ 9000000000000000000 ∧ l0.length ≤ mwL mw82 l0 from ⟨hb, h0, h1, hll⟩)
 clear hR hS hB hb h0 h1 hll
 go_enter Try.func30, Try.ntmps30
 go_wp2
 go_loopg [1, 5] (l0.length) (fun kq v1 v5 w' => ∃ (x1 : Int) (x5 : Int), v1 = .int .i64 x1 ∧ v5 = .int .i64 x5 ∧ Aside0 (0 ≤ x5 ∧ x5 ≤ (l0.length : Int) ∧ (kq : Int) = (l0.length : Int) - x5 ∧ x1 = a1 + (mwL mw82 (l0.take x5.toNat) : Nat)) ∧ Aside0 (SkB W0 w w0 P0_ w'))
 case atStart => exact ⟨a1, 0, rfl, rfl, ⟨by omega, by omega, by omega, by simp [mwL]⟩, HS⟩
 case round =>
  clear HS
  obtain ⟨x1, x5, rfl, rfl, HX, HS0⟩ := hrel
  obtain ⟨hx0, hx1, hx2, hx3⟩ := HX.out
  by_cases c1 : x5 < (l0.length : Int)
  ·obtain ⟨g, c, rfl, hM, he, hP, hbg⟩ := sk_elem HR.out z82 x5 hx0 c1
   have hM' : k82.M W0 base P0_ (rd_T82 l0 x5) c := hM
   clear hM
   have hM := hM'
   clear hM'
   obtain ⟨v5, v8, v9, v10, rfl, r5, r8, r9, r10⟩ := k82_openM hM
   obtain ⟨Ar5, cr5, rfl⟩ := Kd.R_slice r5
   have HR5 := Aside0.mk r5
   obtain ⟨Ar8, cr8, rfl⟩ := Kd.R_slice r8
   have HR8 := Aside0.mk r8
   obtain ⟨Ar9, cr9, rfl⟩ := Kd.R_slice r9
   have HR9 := Aside0.mk r9
   obtain ⟨Ar10, cr10, rfl⟩ := Kd.R_slice r10
   have HR10 := Aside0.mk r10
   have hmw := mwL_step mw82 l0 z82 x5 hx0 c1
   have hml := mwL_le mw82 l0 (x5 + 1).toNat
   have hme : mw82 (l0.getD x5.toNat z82) = 7 + mwL mw95 (rd_T82 l0 x5).f5 + mwL mw1 (rd_T82 l0 x5).f6.f2 + mwL mw1 (rd_T82 l0 x5).f6.f3 + mwL mw97 (rd_T82 l0 x5).f7 := rfl
   have hz := HZ.out
   have w5 : wrap64 (x5 + 1) = x5 + 1 := mwid (by omega) (by omega)
   have HHE := Aside0.mk he
   have p0 := eq_true hx0
   have q0 := eq_true c1
   have HP := Aside0.mk hP
   have HBG := Aside0.mk (Nat.le_trans hz.1 hbg)
   have HMW := Aside0.mk (And.intro hmw (And.intro hml (And.intro hme (And.intro hx0 (And.intro c1 (And.intro hx2 hx3))))))
   have W5 := Aside0.mk w5
   clear he hP hbg c1 hmw hml hme hz w5 hx2 hx3 HX hx0 hx1 r5 r8 r9 r10
   go_wp2_with (first | (go_at_call 42; (with_reducible refine (mkt_call _ _ ?hE).mono ?_); (case hE => first | exact mw_le _ | (have h := HMW.out; have h2 := HZ.out; omega)); rintro e wa ⟨t0, rfl, hb⟩; have HS1 := Aside0.mk (SkB.below HS0.out hb); clear hb; obtain ⟨u0, hc0⟩ : ∃ u, wa.cell? ⟨g, x5.toNat * 11, none⟩ = some u := SkB.cell (m := x5.toNat * 11) HS1.out HHE.out (j := 0) rfl; obtain ⟨u1, hc1⟩ : ∃ u, wa.cell? ⟨g, x5.toNat * 11 + 1, none⟩ = some u := SkB.cell (m := x5.toNat * 11) HS1.out HHE.out (j := 1) rfl; obtain ⟨u2, hc2⟩ : ∃ u, wa.cell? ⟨g, x5.toNat * 11 + 2, none⟩ = some u := SkB.cell (m := x5.toNat * 11) HS1.out HHE.out (j := 2) rfl; obtain ⟨u3, hc3⟩ : ∃ u, wa.cell? ⟨g, x5.toNat * 11 + 3, none⟩ = some u := SkB.cell (m := x5.toNat * 11) HS1.out HHE.out (j := 3) rfl; obtain ⟨u4, hc4⟩ : ∃ u, wa.cell? ⟨g, x5.toNat * 11 + 4, none⟩ = some u := SkB.cell (m := x5.toNat * 11) HS1.out HHE.out (j := 4) rfl; have hc5 : wa.cell? ⟨g, x5.toNat * 11 + 5, none⟩ = some (.slice Ar5 (rd_T82 l0 x5).f5.length cr5) := SkB.slice (m := x5.toNat * 11) HS1.out HHE.out (j := 5) rfl; have hf := SkB.frozen HS1.out HHE.out) | (go_at_call 43; (with_reducible refine (laws_markHoldS.skel W0 P0_ base _ _ (rd_T82 l0 x5).f5 _ w0 _ ?hR ?hS ?hB ?hb ?h0 ?h1).mono ?_); (case hR => exact HR5.out); (case hS => exact ((SkB.put (m := x5.toNat * 11) (SkB.put (m := x5.toNat * 11) (SkB.put (m := x5.toNat * 11) (SkB.put (m := x5.toNat * 11) (SkB.put (m := x5.toNat * 11) HS1.out HHE.out HP.out HBG.out (j := 0) rfl ⟨_, rfl⟩) HHE.out HP.out HBG.out (j := 1) rfl ⟨_, rfl⟩) HHE.out HP.out HBG.out (j := 2) rfl ⟨_, rfl⟩) HHE.out HP.out HBG.out (j := 3) rfl ⟨_, rfl⟩) HHE.out HP.out HBG.out (j := 4) rfl ⟨_, rfl⟩)).s); (case hB => exact ((SkB.put (m := x5.toNat * 11) (SkB.put (m := x5.toNat * 11) (SkB.put (m := x5.toNat * 11) (SkB.put (m := x5.toNat * 11) (SkB.put (m := x5.toNat * 11) HS1.out HHE.out HP.out HBG.out (j := 0) rfl ⟨_, rfl⟩) HHE.out HP.out HBG.out (j := 1) rfl ⟨_, rfl⟩) HHE.out HP.out HBG.out (j := 2) rfl ⟨_, rfl⟩) HHE.out HP.out HBG.out (j := 3) rfl ⟨_, rfl⟩) HHE.out HP.out HBG.out (j := 4) rfl ⟨_, rfl⟩)).b); (case hb => exact HZ.out.1); (case h0 => have h := HMW.out; have h2 := HZ.out; (try unfold wrap64); omega); (case h1 => have h := HMW.out; have h2 := HZ.out; (try unfold wrap64); omega); rintro e wb ⟨rfl, hs, hb, hk⟩; have HS2 := Aside0.mk (SkB.mark (SkB.put (m := x5.toNat * 11) (SkB.put (m := x5.toNat * 11) (SkB.put (m := x5.toNat * 11) (SkB.put (m := x5.toNat * 11) (SkB.put (m := x5.toNat * 11) HS1.out HHE.out HP.out HBG.out (j := 0) rfl ⟨_, rfl⟩) HHE.out HP.out HBG.out (j := 1) rfl ⟨_, rfl⟩) HHE.out HP.out HBG.out (j := 2) rfl ⟨_, rfl⟩) HHE.out HP.out HBG.out (j := 3) rfl ⟨_, rfl⟩) HHE.out HP.out HBG.out (j := 4) rfl ⟨_, rfl⟩) hs hb hk); clear hs hb hk hc0 hc1 hc2 hc3 hc4 hc5 hf; obtain ⟨u6, hc6⟩ : ∃ u, wb.cell? ⟨g, x5.toNat * 11 + 6, none⟩ = some u := SkB.cell (m := x5.toNat * 11) HS2.out HHE.out (j := 6) rfl; obtain ⟨u7, hc7⟩ : ∃ u, wb.cell? ⟨g, x5.toNat * 11 + 7, none⟩ = some u := SkB.cell (m := x5.toNat * 11) HS2.out HHE.out (j := 7) rfl; have hc8 : wb.cell? ⟨g, x5.toNat * 11 + 8, none⟩ = some (.slice Ar8 (rd_T82 l0 x5).f6.f2.length cr8) := SkB.slice (m := x5.toNat * 11) HS2.out HHE.out (j := 8) rfl; have hf := SkB.frozen HS2.out HHE.out) | (go_at_call 11; (with_reducible refine (laws_markIntS.skel W0 P0_ base _ _ (rd_T82 l0 x5).f6.f2 _ w0 _ ?hR ?hS ?hB ?hb ?h0 ?h1).mono ?_); (case hR => exact HR8.out); (case hS => exact ((SkB.put (m := x5.toNat * 11) (SkB.put (m := x5.toNat * 11) HS2.out HHE.out HP.out HBG.out (j := 6) rfl ⟨_, rfl⟩) HHE.out HP.out HBG.out (j := 7) rfl ⟨_, rfl⟩)).s); (case hB => exact ((SkB.put (m := x5.toNat * 11) (SkB.put (m := x5.toNat * 11) HS2.out HHE.out HP.out HBG.out (j := 6) rfl ⟨_, rfl⟩) HHE.out HP.out HBG.out (j := 7) rfl ⟨_, rfl⟩)).b); (case hb => exact HZ.out.1); (case h0 => have h := HMW.out; have h2 := HZ.out; (try unfold wrap64); omega); (case h1 => have h := HMW.out; have h2 := HZ.out; (try unfold wrap64); omega); rintro e wc ⟨rfl, hs, hb, hk⟩; have HS3 := Aside0.mk (SkB.mark (SkB.put (m := x5.toNat * 11) (SkB.put (m := x5.toNat * 11) HS2.out HHE.out HP.out HBG.out (j := 6) rfl ⟨_, rfl⟩) HHE.out HP.out HBG.out (j := 7) rfl ⟨_, rfl⟩) hs hb hk); clear hs hb hk hc6 hc7 hc8 hf; have hc9 : wc.cell? ⟨g, x5.toNat * 11 + 9, none⟩ = some (.slice Ar9 (rd_T82 l0 x5).f6.f3.length cr9) := SkB.slice (m := x5.toNat * 11) HS3.out HHE.out (j := 9) rfl) | (go_at_call 11; (with_reducible refine (laws_markIntS.skel W0 P0_ base _ _ (rd_T82 l0 x5).f6.f3 _ w0 _ ?hR ?hS ?hB ?hb ?h0 ?h1).mono ?_); (case hR => exact HR9.out); (case hS => exact (HS3.out).s); (case hB => exact (HS3.out).b); (case hb => exact HZ.out.1); (case h0 => have h := HMW.out; have h2 := HZ.out; (try unfold wrap64); omega); (case h1 => have h := HMW.out; have h2 := HZ.out; (try unfold wrap64); omega); rintro e wd ⟨rfl, hs, hb, hk⟩; have HS4 := Aside0.mk (SkB.mark HS3.out hs hb hk); clear hs hb hk hc9; have hc10 : wd.cell? ⟨g, x5.toNat * 11 + 10, none⟩ = some (.slice Ar10 (rd_T82 l0 x5).f7.length cr10) := SkB.slice (m := x5.toNat * 11) HS4.out HHE.out (j := 10) rfl) | (go_at_call 44; (with_reducible refine (laws_markSlotS.skel W0 P0_ base _ _ (rd_T82 l0 x5).f7 _ w0 _ ?hR ?hS ?hB ?hb ?h0 ?h1).mono ?_); (case hR => exact HR10.out); (case hS => exact (HS4.out).s); (case hB => exact (HS4.out).b); (case hb => exact HZ.out.1); (case h0 => have h := HMW.out; have h2 := HZ.out; (try unfold wrap64); omega); (case h1 => have h := HMW.out; have h2 := HZ.out; (try unfold wrap64); omega); rintro e we ⟨rfl, hs, hb, hk⟩; have HS5 := Aside0.mk (SkB.mark HS4.out hs hb hk); clear hs hb hk hc10))
   go_roundg (gk - 1)
   case measure => have h := HMW.out; have h2 := HZ.out; omega
   case rel =>
    refine ⟨_, _, rfl, rfl, ⟨?_⟩, ⟨?_⟩⟩
    ·have h := HMW.out
     have h2 := HZ.out
     have h3 := W5.out
     rw [h3]
     refine ⟨by omega, by omega, by omega, ?_⟩
     unfold wrap64
     omega
    ·exact HS5.out
  ·have d0 : decide (x5 < (l0.length : Int)) = false := decide_eq_false c1
   have hz := HZ.out
   obtain rfl : x5 = (l0.length : Int) := by omega
   have e1 : x1 = a1 + (mwL mw82 l0 : Nat) := by rw [hx3, Int.toNat_natCast, List.take_length]
   subst e1
   clear c1 HX hx0 hx1 hx2 hx3 hz
   go_wp2
   go_ret
   exact ⟨rfl, HS0.out.s, HS0.out.b, HS0.out.k⟩
/-! ### laws_markStripeS: function 21 -/
def mw60 (x : S60) : Nat := 1 + mwL mw82 x.f1
set_option maxHeartbeats 8000000 in
set_option maxRecDepth 100000 in
theorem laws_markStripeS.skel (W0 : World) (P0_ : Nat → Prop) (base : Nat) (A0 : Option Addr) (c0 : Nat) (l0 : List (S60)) (a1 : Int) (w0 w : World) (hR : Kd.R k60 60 W0 base P0_ (.slice A0 l0.length c0) l0) (hS : Skel W0 w) (hB : Below w0.heap.size w0 w) (hb : w0.heap.size ≤ base) (h0 : 0 ≤ a1) (h1 : a1 + (mwL mw60 l0 : Nat) ≤ 9000000000000000000) :
  Calls Try.prog 21 #[.slice A0 l0.length c0, .int .i64 a1] w fun e w' => e = .returned (.int .i64 (a1 + (mwL mw60 l0 : Nat))) ∧ Skel W0 w' ∧ Below w0.heap.size w0 w' ∧ Kept w w' P0_ := by
 have hll := mwL_len mw60 (fun _ => by unfold mw60; omega) l0
 have hu29 := Try.underlying29
 have HR := Aside0.mk hR
 have HS := Aside0.mk (SkB.mk (P0 := P0_) hS (Kept.refl w P0_) hB)
 have HZ := Aside0.mk (show w0.heap.size ≤ base ∧ 0 ≤ a1 ∧ a1 + (mwL mw60 l0 : Nat) ≤ 9000000000000000000 ∧ l0.length ≤ mwL mw60 l0 from ⟨hb, h0, h1, hll⟩)
 clear hR hS hB hb h0 h1 hll
 go_enter Try.func21, Try.ntmps21
 go_wp2
 go_loopg [1, 5] (l0.length) (fun kq v1 v5 w' => ∃ (x1 : Int) (x5 : Int), v1 = .int .i64 x1 ∧ v5 = .int .i64 x5 ∧ Aside0 (0 ≤ x5 ∧ x5 ≤ (l0.length : Int) ∧ (kq : Int) = (l0.length : Int) - x5 ∧ x1 = a1 + (mwL mw60 (l0.take x5.toNat) : Nat)) ∧ Aside0 (SkB W0 w w0 P0_ w'))
 case atStart => exact ⟨a1, 0, rfl, rfl, ⟨by omega, by omega, by omega, by simp [mwL]⟩, HS⟩
 case round =>
  clear HS
  obtain ⟨x1, x5, rfl, rfl, HX, HS0⟩ := hrel
  obtain ⟨hx0, hx1, hx2, hx3⟩ := HX.out
  by_cases c1 : x5 < (l0.length : Int)
  ·obtain ⟨g, c, rfl, hM, he, hP, hbg⟩ := sk_elem HR.out z60 x5 hx0 c1
   have hM' : k60.M W0 base P0_ (rd_T60 l0 x5) c := hM
   clear hM
   have hM := hM'
   clear hM'
   obtain ⟨v1, rfl, r1⟩ := k60_openM hM
   obtain ⟨Ar1, cr1, rfl⟩ := Kd.R_slice r1
   have HR1 := Aside0.mk r1
   have hmw := mwL_step mw60 l0 z60 x5 hx0 c1
   have hml := mwL_le mw60 l0 (x5 + 1).toNat
   have hme : mw60 (l0.getD x5.toNat z60) = 1 + mwL mw82 (rd_T60 l0 x5).f1 := rfl
   have hz := HZ.out
   have w5 : wrap64 (x5 + 1) = x5 + 1 := mwid (by omega) (by omega)
   have HHE := Aside0.mk he
   have p0 := eq_true hx0
   have q0 := eq_true c1
   have HP := Aside0.mk hP
   have HBG := Aside0.mk (Nat.le_trans hz.1 hbg)
   have HMW := Aside0.mk (And.intro hmw (And.intro hml (And.intro hme (And.intro hx0 (And.intro c1 (And.intro hx2 hx3))))))
   have W5 := Aside0.mk w5
   obtain ⟨u0, hc0⟩ : ∃ u, wr.cell? ⟨g, x5.toNat * 2, none⟩ = some u := SkB.cell (m := x5.toNat * 2) HS0.out HHE.out (j := 0) rfl
   have hc1 : wr.cell? ⟨g, x5.toNat * 2 + 1, none⟩ = some (.slice Ar1 (rd_T60 l0 x5).f1.length cr1) := SkB.slice (m := x5.toNat * 2) HS0.out HHE.out (j := 1) rfl
   have hf := SkB.frozen HS0.out HHE.out
   clear he hP hbg c1 hmw hml hme hz w5 hx2 hx3 HX hx0 hx1 r1
   go_wp2_with (first | (go_at_call 30; (with_reducible refine (laws_markAcctS.skel W0 P0_ base _ _ (rd_T60 l0 x5).f1 _ w0 _ ?hR ?hS ?hB ?hb ?h0 ?h1).mono ?_); (case hR => exact HR1.out); (case hS => exact ((SkB.put (m := x5.toNat * 2) HS0.out HHE.out HP.out HBG.out (j := 0) rfl ⟨_, rfl⟩)).s); (case hB => exact ((SkB.put (m := x5.toNat * 2) HS0.out HHE.out HP.out HBG.out (j := 0) rfl ⟨_, rfl⟩)).b); (case hb => exact HZ.out.1); (case h0 => have h := HMW.out; have h2 := HZ.out; (try unfold wrap64); omega); (case h1 => have h := HMW.out; have h2 := HZ.out; (try unfold wrap64); omega); rintro e wa ⟨rfl, hs, hb, hk⟩; have HS1 := Aside0.mk (SkB.mark (SkB.put (m := x5.toNat * 2) HS0.out HHE.out HP.out HBG.out (j := 0) rfl ⟨_, rfl⟩) hs hb hk); clear hs hb hk hc0 hc1 hf))
   go_roundg (gk - 1)
   case measure => have h := HMW.out; have h2 := HZ.out; omega
   case rel =>
    refine ⟨_, _, rfl, rfl, ⟨?_⟩, ⟨?_⟩⟩
    ·have h := HMW.out
     have h2 := HZ.out
     have h3 := W5.out
     rw [h3]
     refine ⟨by omega, by omega, by omega, ?_⟩
     unfold wrap64
     omega
    ·exact HS1.out
  ·have d0 : decide (x5 < (l0.length : Int)) = false := decide_eq_false c1
   have hz := HZ.out
   obtain rfl : x5 = (l0.length : Int) := by omega
   have e1 : x1 = a1 + (mwL mw60 l0 : Nat) := by rw [hx3, Int.toNat_natCast, List.take_length]
   subst e1
   clear c1 HX hx0 hx1 hx2 hx3 hz
   go_wp2
   go_ret
   exact ⟨rfl, HS0.out.s, HS0.out.b, HS0.out.k⟩
end Go.Proofs.Ytbjpfknmkpnhjaa.QFnExactOrderOf
