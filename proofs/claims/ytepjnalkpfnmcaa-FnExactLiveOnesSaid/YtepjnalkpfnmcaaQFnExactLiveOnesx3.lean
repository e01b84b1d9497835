-- by my own printer (myprint.py, over the kit's print.py)
import Derived.Test.YtepjnalkpfnmcaaQFnExactLiveOnesx0
import Derived.Test.YtepjnalkpfnmcaaQFnExactLiveOnesx1
import Derived.Test.YtepjnalkpfnmcaaQFnExactLiveOnesx2
namespace Go.Proofs.Ytepjnalkpfnmcaa.QFnExactLiveOnes
open Go.RowKit Go.Proofs.YtepjnalkpfnmcaaW.PrintWords Go.Proofs.YtepjnalkpfnmcaaW.PrintLast Go.Proofs.YtepjnalkpfnmcaaW.PrintMore
attribute [local go_sem] max2_int min2_int max_two min_two max_three min_three max_four min_four   -- for this text's walks alone
set_option linter.unusedVariables false
set_option linter.unusedSimpArgs false

attribute [local go_sem] my_geq my_leq my_gtr
/-! ### impl_Hold_77: function 77 -/
section
variable {α : Type} {d : Kd α} {e base g n cap : Nat} {ok : Nat → Prop} {xs : List α}
theorem df_app (g : Nat) : ∀ (a b : List Value) (o : Nat) (w : World), w.setCells g o (a ++ b) = (w.setCells g o a).setCells g (o + a.length) b
 | [], b, o, w => by simp [World.setCells]
 | v :: a, b, o, w => by
  simp only [List.cons_append, World.setCells, List.length_cons]
  rw [df_app g a b, show o + 1 + a.length = o + (a.length + 1) by omega]
theorem df_store {W : World} (h : d.R e W base ok (.slice (some ⟨g, 0, none⟩) n cap) xs) (z : α) (i : Nat) (hi : i < n) (x : α) (c : List Value) (hc : c.length = d.sz) (hM : d.M W base (fun _ => False) x c) :
  d.R e (W.setCells g (i * d.sz) c) base ok (.slice (some ⟨g, 0, none⟩) n cap) (xs.set i x) ∧ W.grownBy (W.setCells g (i * d.sz) c) (some g) := by
 obtain ⟨c0, hl, _, hcc, _⟩ := Kd.R_elem h z (i : Int) (by omega) (by omega)
 have hq := Kd.R_seg (okp := fun _ => False) (x' := x) (seg := c) (j := 0) h (i : Int) (by omega) (by omega) hl hcc (by omega) (by rw [List.take_zero, List.nil_append, Nat.zero_add, List.drop_eq_nil_of_le (by omega), List.append_nil]; exact hM) (fun _ hk => hk.elim)
 simpa using hq
theorem df_zeros {α : Type} {d : Kd α} {e base g n cap : Nat} {ok : Nat → Prop} (z : α) (c : List Value) (hc : c.length = d.sz) (hM : ∀ W, d.M W base (fun _ => False) z c) : ∀ (m i : Nat) (xs : List α) (W : World), i + m = n →
  d.R e W base ok (.slice (some ⟨g, 0, none⟩) n cap) xs → ∃ ys, ys.take i = xs.take i ∧ d.R e (W.setCells g (i * d.sz) (List.replicate m c).flatten) base ok (.slice (some ⟨g, 0, none⟩) n cap) ys ∧ W.grownBy (W.setCells g (i * d.sz) (List.replicate m c).flatten) (some g)
 | 0, i, xs, W, _, h => ⟨xs, rfl, by simpa [World.setCells] using h, by simp [World.setCells]; exact World.grownBy.refl W _⟩
 | m + 1, i, xs, W, hi, h => by
  obtain ⟨h1, g1⟩ := df_store h z i (by omega) z c hc (hM W)
  obtain ⟨ys, ht, h2, g2⟩ := df_zeros z c hc hM m (i + 1) (xs.set i z) _ (by omega) h1
  have e1 : i * d.sz + c.length = (i + 1) * d.sz := by rw [hc, Nat.succ_mul]
  refine ⟨ys, ?_, ?_, ?_⟩
  ·have h3 := congrArg (List.take i) ht
   rw [List.take_take, List.take_take, Nat.min_eq_left (by omega)] at h3
   rw [h3, List.take_set_of_le (by omega)]
  ·rw [List.replicate_succ, List.flatten_cons, df_app, e1]; exact h2
  ·rw [List.replicate_succ, List.flatten_cons, df_app, e1]; exact g1.trans g2
theorem df_clear {P : Program} (w : World) (t e ty : TypeId) (z : Value) (ht : P.underlying t = some (.slice e)) (hv : ∀ w, (zeroValue e).run P w = .ok z w) (hz : 0 < z.cells.size) (h1 : ∀ u ∈ z.cells.toList, u.oneCell' = true) (b o n c : Nat) (hn : 0 < n)
  (hc : ∀ j, j < n * z.cells.size → (w.cell? ⟨b, o + j, none⟩).isSome = true) (hf : ∀ j, j < n * z.cells.size → w.frozen? ⟨b, o + j, none⟩ = false) :
  (Builtin.clear_ #[t] ty #[.slice (some ⟨b, o, none⟩) n c]).run P w = .ok (.tuple #[]) (w.setCells b o (List.replicate n z.cells.toList).flatten) := by
 have hzc : (Builtin.zeroCells z.cells n).toList = (List.replicate n z.cells.toList).flatten := by
  simp only [Builtin.zeroCells]
  apply List.ext_getElem
  ·simp
  ·intro i h1 h2
   have hi : i < n * z.cells.size := by simpa using h1
   have hm : i % z.cells.size < z.cells.size := Nat.mod_lt _ hz
   have key : ∀ (m i : Nat) (hi : i < m * z.cells.size) (h : i < (List.replicate m z.cells.toList).flatten.length), (List.replicate m z.cells.toList).flatten[i] = z.cells[i % z.cells.size]'(Nat.mod_lt _ hz) := by
    intro m
    induction m with
    | zero => intro i hi; simp at hi
    | succ m ih =>
     intro i hi h
     have e1 : (List.replicate (m + 1) z.cells.toList).flatten = z.cells.toList ++ (List.replicate m z.cells.toList).flatten := by rw [List.replicate_succ, List.flatten_cons]
     rw [List.getElem_of_eq e1]
     by_cases hlt : i < z.cells.size
     ·rw [List.getElem_append_left (by simpa using hlt)]
      simp [Nat.mod_eq_of_lt hlt]
     ·rw [List.getElem_append_right (by simpa using hlt), ih _ (by simp; rw [Nat.succ_mul] at hi; omega)]
      have e2 : i % z.cells.size = (i - z.cells.size) % z.cells.size := Nat.mod_eq_sub_mod (by omega)
      simp only [Array.length_toList, e2]
   rw [key n i hi h2]
   simp
   rw [getElem!_pos z.cells _ hm]
 have hst := run_storeCells_cells (P := P) b o (List.replicate n z.cells.toList).flatten 0 w (by simpa using hc) (by simpa using hf) (by
  intro v hv'
  obtain ⟨l, hl, hv2⟩ := List.mem_flatten.1 hv'
  rw [List.eq_of_mem_replicate hl] at hv2
  exact h1 v hv2)
 simp only [Nat.add_zero] at hst
 obtain ⟨m, rfl⟩ : ∃ m, n = m + 1 := ⟨n - 1, by omega⟩
 simp [Builtin.clear_, run_underlying ht, hv, hzc, hst]
end
theorem impl_Hold_77.rdN {xs : List S93} {x : Int} (h : x.toNat < xs.length) : rd_T93 xs x = xs[x.toNat] := by
 unfold rd_T93
 rw [List.getD_eq_getElem?_getD, List.getElem?_eq_getElem h]; rfl
def impl_Hold_77.idxF (p : S93 → Bool) (xs : List S93) : Int := match xs.findIdx? p with | some j => (j : Int) | none => -1
theorem impl_Hold_77.idxF_none (p : S93 → Bool) (xs : List S93) (h : ∀ j (hj : j < xs.length), p xs[j] = false) : impl_Hold_77.idxF p xs = -1 := by
 unfold impl_Hold_77.idxF
 have : xs.findIdx? p = none := by
  rw [List.findIdx?_eq_none_iff]
  intro x hx
  obtain ⟨j, hj, rfl⟩ := List.getElem_of_mem hx
  exact h j hj
 rw [this]
theorem impl_Hold_77.idxF_some (p : S93 → Bool) (xs : List S93) (i : Nat) (hi : i < xs.length) (hp : p xs[i] = true) (h : ∀ j (hj : j < i), p (xs[j]'(by omega)) = false) : impl_Hold_77.idxF p xs = (i : Int) := by
 unfold impl_Hold_77.idxF
 have : xs.findIdx? p = some i := by
  rw [List.findIdx?_eq_some_iff_getElem]
  exact ⟨hi, hp, fun j hj => by simpa using h j hj⟩
 rw [this]
set_option maxHeartbeats 2000000 in
set_option maxRecDepth 100000 in
theorem impl_Hold_77.idx (A0 : Option Addr) (c0 : Nat) (l0 : List S93) (g : Nat) (lb : Array Value) (p : S93 → Bool) (w : World) (hr0 : Kd.C k93 w A0 l0.length l0) (hc0 : l0.length ≤ c0)
  (eg : ∀ args w, (callFunc g args).run Try.prog w = .ok (.enter g args) w)
  (hp : ∀ (W : World) (x : S93), Below w.heap.size w W → Calls Try.prog g (#[.agg #[.string x.f0, .int .i64 x.f1, .int .i64 x.f2]] ++ lb) W fun e w' => e = .returned (.bool (p x)) ∧ Below W.heap.size W w') :
  Calls Try.prog 135 #[.slice A0 l0.length c0, .func (.func g) #[] lb] w fun e w' => e = .returned (.int .i64 (impl_Hold_77.idxF p l0)) ∧ Below w.heap.size w w' := by
 have hlen : l0.length ≤ 9223372036854775807 := hr0.2.1
 have HR0 := Aside0.mk hr0
 have HL := Aside0.mk hlen
 have HP := Aside0.mk hp
 clear hr0 hp
 have HB := Aside0.mk (Below.refl w.heap.size w)
 have hu93 := Try.underlying93
 clear hlen hc0
 go_enter Try.func135, Try.ntmps135
 go_wp2
 go_loopg [5, 8] l0.length (fun gg _ s8 wr => ∃ x : Int, s8 = .int .i64 x ∧ Aside0 (0 ≤ x) ∧ Aside0 (x ≤ l0.length) ∧ Aside0 (l0.length - x.toNat ≤ gg) ∧ Aside0 (∀ j (hj : j < l0.length), (j : Int) < x → p l0[j] = false) ∧ Aside0 (Below w.heap.size w wr))
 case atStart => exact ⟨0, rfl, ⟨by omega⟩, ⟨by omega⟩, ⟨by omega⟩, ⟨fun j hj h => by omega⟩, ⟨Below.refl _ w⟩⟩
 case round =>
  obtain ⟨x, rfl, H0, H1, HG, AF, HB⟩ := hrel
  by_cases hlt : x < (l0.length : Int)
  ·have hN : x.toNat < l0.length := by have := H0.out; omega
   have HN := Aside0.mk hN
   have c0 : decide (x < (l0.length : Int)) = true := decide_eq_true hlt
   obtain ⟨ad, e, hx0, hx1, hx2⟩ := at_T93 HR0.out x H0.out hlt
   cases e
   replace hx0 := kc_ HB hx0
   replace hx1 := kc_ HB hx1
   replace hx2 := kc_ HB hx2
   have p0 := eq_true H0.out
   have q0 := eq_true hlt
   clear hN hlt
   have HX := Aside0.mk (impl_Hold_77.rdN HN.out)
   cases hq : p (rd_T93 l0 x) with
   | true =>
    have HC := Aside0.mk (hq ▸ HP.out wr (rd_T93 l0 x) HB.out)
    have HQ := Aside0.mk hq
    clear hq
    go_wp2_with (go_at_fn g; refine HC.out.mono ?_; rintro e w' ⟨rfl, hb'⟩)
    go_ret
    exact ⟨by show Ending.returned (Value.int .i64 x) = _; rw [impl_Hold_77.idxF_some p l0 x.toNat HN.out (by rw [← HX.out]; exact HQ.out) (fun j hj => AF.out j (by have := HN.out; omega) (by omega)), Int.toNat_of_nonneg H0.out], below_step HB.out hb'⟩
   | false =>
    have HC := Aside0.mk (hq ▸ HP.out wr (rd_T93 l0 x) HB.out)
    have HQ := Aside0.mk hq
    clear hq
    go_wp2_with (go_at_fn g; refine HC.out.mono ?_; rintro e w' ⟨rfl, hb'⟩; have HB' := Aside0.mk hb'; clear hb')
    have hw := HL.out
    have e1 : wrap64 (x + 1) = x + 1 := by have := HN.out; have := H0.out; unfold wrap64; omega
    go_roundg (l0.length - (x.toNat + 1))
    case measure => have := HG.out; have := HN.out; omega
    case rel =>
     have hN := HN.out
     have h0 := H0.out
     refine ⟨wrap64 (x + 1), (by first | rfl | (simp; done) | (simp [*]; done)), ⟨by omega⟩, ⟨by omega⟩, ⟨by omega⟩, ⟨fun j hj h => ?_⟩, ⟨below_step HB.out HB'.out⟩⟩
     by_cases e : j = x.toNat
     ·subst e; rw [← HX.out]; exact HQ.out
     ·exact AF.out j hj (by omega)
  ·have c0 : decide (x < (l0.length : Int)) = false := decide_eq_false hlt
   have HN := Aside0.mk hlt
   clear hlt
   go_wp2
   go_ret
   exact ⟨by show Ending.returned (Value.int .i64 (-1)) = _; rw [impl_Hold_77.idxF_none p l0 (fun j hj => AF.out j hj (by have := HN.out; omega))], HB.out⟩
set_option maxHeartbeats 4000000 in
set_option maxRecDepth 100000 in
theorem impl_Hold_77.calls_none (v : Value) (xs : List S93) (gf : Nat) (lb : Array Value) (p : S93 → Bool) (ok : Nat → Prop) (w0 w : World) (hB : Below w0.heap.size w0 w) (hR : Kd.R k93 93 w w0.heap.size ok v xs)
  (eg : ∀ args w, (callFunc gf args).run Try.prog w = .ok (.enter gf args) w)
  (hp : ∀ (W : World) (x : S93), Kept w W (fun k => some k = v.ownBlock) → Calls Try.prog gf (#[.agg #[.string x.f0, .int .i64 x.f1, .int .i64 x.f2]] ++ lb) W fun e w' => e = .returned (.bool (p x)) ∧ Below W.heap.size W w')
  (ha : ∀ j (hj : j < xs.length), p xs[j] = false) :
  Calls Try.prog 77 #[v, .func (.func gf) #[] lb] w fun e w' => ∃ v', e = .returned v' ∧ Kd.R k93 93 w' w0.heap.size ok v' (xs.filter (fun x => !p x)) ∧ Below w0.heap.size w0 w' ∧ Kept w w' (fun k => some k = v.ownBlock) := by
 obtain ⟨A, c, rfl, hc, hC⟩ := Kd.R_reads hR
 have hf : xs.filter (fun x => !p x) = xs := List.filter_eq_self.2 fun x hx => by
  obtain ⟨j, hj, rfl⟩ := List.getElem_of_mem hx
  rw [ha j hj]; rfl
 have hi := impl_Hold_77.idx A c xs gf lb p w hC hc eg (fun W x hb => hp W x (Kept.of_below hb _))
 rw [impl_Hold_77.idxF_none p xs ha] at hi
 rw [hf]
 have HI := Aside0.mk hi
 have HR := Aside0.mk hR
 have HB := Aside0.mk hB
 clear hi hR hB hp ha hf hC
 have hu93 := Try.underlying93
 clear hc
 go_enter Try.func77, Try.ntmps77
 go_wp2_with (go_at_call 135; refine HI.out.mono ?_; rintro e w' ⟨rfl, hb'⟩)
 go_ret
 exact ⟨_, rfl, Kd.R_below HR.out hb', below_then HB.out HB.out.size hb', Kept.of_below hb' _⟩
set_option maxHeartbeats 4000000 in
set_option maxRecDepth 100000 in
theorem impl_Hold_77.calls_some (g cap : Nat) (xs : List S93) (gf : Nat) (lb : Array Value) (p : S93 → Bool) (ok : Nat → Prop) (w0 w : World) (hB : Below w0.heap.size w0 w) (hR : Kd.R k93 93 w w0.heap.size ok (.slice (some ⟨g, 0, none⟩) xs.length cap) xs)
  (eg : ∀ args w, (callFunc gf args).run Try.prog w = .ok (.enter gf args) w)
  (hp : ∀ (W : World) (x : S93), Kept w W (fun k => k = g) → Calls Try.prog gf (#[.agg #[.string x.f0, .int .i64 x.f1, .int .i64 x.f2]] ++ lb) W fun e w' => e = .returned (.bool (p x)) ∧ Below W.heap.size W w')
  (i0 : Nat) (hi0 : i0 < xs.length) (hpi : p (xs[i0]'hi0) = true) (ha : ∀ j (hj : j < i0), p (xs[j]'(Nat.lt_trans hj hi0)) = false) :
  Calls Try.prog 77 #[.slice (some ⟨g, 0, none⟩) xs.length cap, .func (.func gf) #[] lb] w fun e w' => ∃ v', e = .returned v' ∧ Kd.R k93 93 w' w0.heap.size ok v' (xs.filter (fun x => !p x)) ∧ Below w0.heap.size w0 w' ∧ Kept w w' (fun k => k = g) := by
 obtain ⟨hn, hc, hC⟩ := Kd.R_reads' hR
 have hlen : xs.length ≤ 9223372036854775807 := hC.2.1
 have hi := impl_Hold_77.idx (some ⟨g, 0, none⟩) cap xs gf lb p w hC hc eg (fun W x hb => hp W x (Kept.of_below hb _))
 rw [impl_Hold_77.idxF_some p xs i0 hi0 hpi ha] at hi
 have HI := Aside0.mk hi
 have HR := Aside0.mk hR
 have HB := Aside0.mk hB
 have HP := Aside0.mk hp
 have hst : xs.take (i0 + 1) = xs.take i0 ++ [xs[i0]] := by rw [List.take_succ_eq_append_getElem hi0]
 have hst0 : (xs.take i0).filter (fun x => !p x) = xs.take i0 := List.filter_eq_self.2 fun x hx => by
  obtain ⟨j, hj, rfl⟩ := List.getElem_of_mem hx
  rw [List.getElem_take, ha j (by rw [List.length_take] at hj; omega)]; rfl
 have hst1 : (xs.take (i0 + 1)).filter (fun x => !p x) = xs.take i0 := by rw [hst, List.filter_append, hst0]; simp [hpi]
 have HST := Aside0.mk hst1
 have HL := Aside0.mk hlen
 have HC := Aside0.mk hc
 have HI0 := Aside0.mk hi0
 have hg0 : w0.heap.size ≤ g := Kd.R_base hR g rfl
 have HG0 := Aside0.mk hg0
 clear hi hR hB hp hst hst0 hst1 ha hC hpi hg0
 have hu93 := Try.underlying93
 have c1 : (((i0 : Nat) : Int) == -1) = false := by first | (simp; done) | (simp; omega)
 have e1 : IntKind.i64.wrap ((i0 : Int) + 1) = (i0 : Int) + 1 := by rw [i64_w]; unfold wrap64; omega
 clear hlen hc hi0 hn
 go_enter Try.func77, Try.ntmps77
 go_wp2_with (go_at_call 135; refine HI.out.mono ?_; rintro e w' ⟨rfl, hb'⟩)
 go_loopg [5, 6] xs.length (fun gg s5 s6 wr => ∃ (i j : Int) (dk : List S93), s5 = .int .i64 i ∧ s6 = .int .i64 j ∧ Aside0 (0 ≤ i) ∧ Aside0 (i < j) ∧ Aside0 (0 ≤ j) ∧ Aside0 (j ≤ xs.length) ∧ Aside0 (xs.length - j.toNat ≤ gg) ∧ Aside0 (dk.take i.toNat = (xs.take j.toNat).filter (fun x => !p x) ∧ dk.drop j.toNat = xs.drop j.toNat ∧ ((xs.take j.toNat).filter (fun x => !p x)).length = i.toNat) ∧ Aside0 (Kd.R k93 93 wr w0.heap.size ok (.slice (some ⟨g, 0, none⟩) xs.length cap) dk) ∧ Aside0 (Below w0.heap.size w0 wr) ∧ Aside0 (Kept w wr (fun k => k = g)))
 case atStart => exact ⟨i0, i0 + 1, xs, rfl, by first | rfl | (simp; done), ⟨by omega⟩, ⟨by omega⟩, ⟨by omega⟩, ⟨by have := HI0.out; omega⟩, ⟨by omega⟩, ⟨by rw [show ((i0 : Int) + 1).toNat = i0 + 1 by omega, Int.toNat_natCast, HST.out]; exact ⟨rfl, rfl, by rw [List.length_take]; have := HI0.out; omega⟩⟩, ⟨Kd.R_below HR.out hb'⟩, ⟨below_then HB.out HB.out.size hb'⟩, ⟨Kept.of_below hb' _⟩⟩
 case round =>
  obtain ⟨i, j, dk, rfl, rfl, H0, H1, H2, H3, HG, HD, HR, HB, HK⟩ := hrel
  by_cases hlt : j < (xs.length : Int)
  ·obtain ⟨c, hcl, hM, hcc, hfr⟩ := Kd.R_elem HR.out z93 j H2.out hlt
   obtain rfl := k93_openM hM
   obtain ⟨x, hx⟩ : ∃ x, x = rd_T93 dk j := ⟨_, rfl⟩
   have hx0 : wr.cell? ⟨g, j.toNat * 3, none⟩ = some (.string x.f0) := by rw [hx]; exact hcc 0 _ rfl
   have hx1 : wr.cell? ⟨g, j.toNat * 3 + 1, none⟩ = some (.int .i64 x.f1) := by rw [hx]; exact hcc 1 _ rfl
   have hx2 : wr.cell? ⟨g, j.toNat * 3 + 2, none⟩ = some (.int .i64 x.f2) := by rw [hx]; exact hcc 2 _ rfl
   have hdl : dk.length = xs.length := (Kd.R_reads' HR.out).1.symm
   have hXX : x = xs[j.toNat]'(by have := H2.out; omega) := by
    have h1 := congrArg (fun l => l[0]?) HD.out.2.1
    have h0 := H2.out
    simp only [List.getElem?_drop, Nat.add_zero] at h1
    rw [hx]; unfold rd_T93
    rw [List.getD_eq_getElem?_getD, h1, List.getElem?_eq_getElem (by omega)]; rfl
   have hts : xs.take (j.toNat + 1) = xs.take j.toNat ++ [x] := by rw [hXX, List.take_succ_eq_append_getElem]
   have HDL := Aside0.mk hdl
   have HTS := Aside0.mk hts
   clear hcl hM hcc hfr hx hXX hdl hts
   have p0 := eq_true H2.out
   have q0 := eq_true hlt
   have HLT := Aside0.mk hlt
   have e2 : wrap64 (j + 1) = j + 1 := by have := HL.out; have := H2.out; unfold wrap64; omega
   have e3 : (j + 1).toNat = j.toNat + 1 := by have := H2.out; omega
   have E3 := Aside0.mk e3
   have E2 := Aside0.mk e2
   clear hlt e2 e3
   cases hq : p x with
   | true =>
    have HC := Aside0.mk (fun W => hq ▸ HP.out W x)
    have HQ := Aside0.mk hq
    clear hq
    go_wp2_with (go_at_fn gf; refine (HC.out _ (Kept.alloc HK.out _)).mono ?_; rintro e w2 ⟨rfl, hb2⟩; have HB2 := Aside0.mk hb2; clear hb2)
    go_roundg (xs.length - (j.toNat + 1))
    case measure => have := HG.out; have := HLT.out; have := H2.out; omega
    case rel =>
     have := HLT.out; have := H2.out; have := H1.out; have := H0.out
     refine ⟨i, wrap64 (j + 1), dk, rfl, by first | rfl | (simp; done), ⟨by omega⟩, ⟨by rw [E2.out]; omega⟩, ⟨by rw [E2.out]; omega⟩, ⟨by rw [E2.out]; omega⟩, ⟨by rw [E2.out]; omega⟩, ⟨?_⟩, ⟨Kd.R_below (Kd.R_alloc HR.out _) HB2.out⟩, ⟨below_then (HB.out.alloc HB.out.size _) (by simp; have := HB.out.size; omega) HB2.out⟩, ⟨Kept.below (Kept.alloc HK.out _) HB2.out⟩⟩
     rw [E2.out, E3.out, HTS.out, List.filter_append]
     simp only [List.filter_cons, HQ.out, Bool.not_true, List.filter_nil, List.append_nil, Bool.false_eq_true, if_false]
     refine ⟨HD.out.1, ?_, HD.out.2.2⟩
     have h1 := congrArg (List.drop 1) HD.out.2.1
     simpa [List.drop_drop] using h1
   | false =>
    have HC := Aside0.mk (fun W => hq ▸ HP.out W x)
    have HQ := Aside0.mk hq
    clear hq
    go_wp2_with (go_at_fn gf; refine (HC.out _ (Kept.alloc HK.out _)).mono ?_; rintro e w2 ⟨rfl, hb2⟩; have HB2 := Aside0.mk hb2; have hbv := (hb2.block wr.heap.size (by simp)).trans (heap_alloc_new wr _); have HBV := Aside0.mk hbv; have hv0 := (blk_cell hbv 0).trans (show _ = some (Value.string x.f0) from rfl); have hv1 := (blk_cell hbv 1).trans (show _ = some (Value.int .i64 x.f1) from rfl); have hv2 := (blk_cell hbv 2).trans (show _ = some (Value.int .i64 x.f2) from rfl); have HR2 := Aside0.mk (Kd.R_below (Kd.R_alloc HR.out _) hb2); obtain ⟨c, hcl, hM, hcc, hfr⟩ := Kd.R_elem HR2.out z93 i H0.out (by have := H1.out; have := HLT.out; omega); obtain rfl := k93_openM hM; have hi0 := hcc 0 _ rfl; have hf0 := hfr 0; have hi1 := hcc 1 _ rfl; have hf1 := hfr 1; have hi2 := hcc 2 _ rfl; have hf2 := hfr 2; simp only [show k93.sz = 3 from rfl, Nat.add_zero] at hi0 hf0 hi1 hf1 hi2 hf2; have p1 := eq_true H0.out; have q1 := eq_true (show i < (xs.length : Int) by have := H1.out; have := HLT.out; omega); clear hb2 hbv hcl hM hcc hfr)
    go_roundg (xs.length - (j.toNat + 1))
    case measure => have := HG.out; have := HLT.out; have := H2.out; omega
    case rel =>
     have := HLT.out; have := H2.out; have := H1.out; have := H0.out; have hdl := HDL.out; have hw := HL.out
     have hs := df_store HR2.out z93 i.toNat (by omega) x [.string x.f0, .int .i64 x.f1, .int .i64 x.f2] rfl (k93_mkM _ _ _ x)
     have e4 : wrap64 (i + 1) = i + 1 := by unfold wrap64; omega
     have e5 : (i + 1).toNat = i.toNat + 1 := by omega
     have ht1 : (dk.set i.toNat x).take (i.toNat + 1) = dk.take i.toNat ++ [x] := by
      rw [List.take_succ_eq_append_getElem (by rw [List.length_set]; omega), List.take_set_of_le (Nat.le_refl _), List.getElem_set_self]
     refine ⟨wrap64 (i + 1), wrap64 (j + 1), dk.set i.toNat x, rfl, rfl, ⟨by rw [e4]; omega⟩, ⟨by rw [E2.out, e4]; omega⟩, ⟨by rw [E2.out]; omega⟩, ⟨by rw [E2.out]; omega⟩, ⟨by rw [E2.out]; omega⟩, ⟨?_⟩, ⟨hs.1⟩, ⟨(below_then (HB.out.alloc HB.out.size _) (by simp; have := HB.out.size; omega) HB2.out).grown hs.2 (by have := HB2.out.size; have := HB.out.size; simp at *; omega) (fun k hk => by cases hk; exact HG0.out)⟩, ⟨Kept.of_grown hs.2 (Kept.below (Kept.alloc HK.out _) HB2.out) (fun k hk => by cases hk; exact .inl rfl)⟩⟩
     rw [E2.out, E3.out, e4, e5, HTS.out, List.filter_append, ht1]
     simp only [List.filter_cons, HQ.out, Bool.not_false, List.filter_nil, if_true]
     refine ⟨by rw [HD.out.1], ?_, by rw [List.length_append, HD.out.2.2]; rfl⟩
     have h1 := congrArg (List.drop 1) HD.out.2.1
     rw [List.drop_set_of_lt (by omega)]
     simpa [List.drop_drop] using h1
  ·have hje : j = (xs.length : Int) := by have := H3.out; omega
   have hfi : xs.filter (fun x => !p x) = dk.take i.toNat := by
    have h1 := HD.out.1
    rw [hje, Int.toNat_natCast, List.take_length] at h1
    exact h1.symm
   have HFI := Aside0.mk hfi
   have q0 : decide (j < (xs.length : Int)) = false := decide_eq_false hlt
   have p1 := eq_true H0.out
   have q1 := eq_true (show i ≤ (xs.length : Int) by have := H1.out; omega)
   have h0 := H0.out
   have h1 := H1.out
   have hcc := HC.out
   have q2 := eq_true (show i ≤ (cap : Int) by omega)
   have n1 := eq_false (show ¬ i.toNat = cap by omega)
   have n2 := eq_false (show ¬ cap = i.toNat by omega)
   have hcl : ∀ ty, (Builtin.clear_ #[24] ty #[.slice (some ⟨g, i.toNat * 3, none⟩) (xs.length - i.toNat) (cap - i.toNat)]).run Try.prog wr = .ok (.tuple #[]) (wr.setCells g (i.toNat * 3) (List.replicate (xs.length - i.toNat) [Value.string ⟨#[]⟩, Value.int .i64 0, Value.int .i64 0]).flatten) := fun ty =>
    df_clear wr 24 93 ty (.agg #[Value.string ⟨#[]⟩, Value.int .i64 0, Value.int .i64 0]) Try.underlying24 (fun w => by simp [go_sem]) (by decide) (by decide) g _ _ _ (by omega) (fun q hq => by
     replace hq : q < (xs.length - i.toNat) * 3 := hq
     obtain ⟨c, hcl, _, hcc, _⟩ := Kd.R_elem HR.out z93 ((i.toNat + q / 3 : Nat) : Int) (by omega) (by omega)
     have h3 := hcc (q % 3) _ (List.getElem?_eq_getElem (show q % 3 < c.length by rw [hcl]; show q % 3 < 3; omega))
     rw [show ((i.toNat + q / 3 : Nat) : Int).toNat * k93.sz + q % 3 = i.toNat * 3 + q from by show _ * 3 + _ = _; omega] at h3
     rw [h3]; rfl) (fun q hq => by
     replace hq : q < (xs.length - i.toNat) * 3 := hq
     obtain ⟨c, hcl, _, _, hfr⟩ := Kd.R_elem HR.out z93 ((i.toNat + q / 3 : Nat) : Int) (by omega) (by omega)
     have h3 := hfr (q % 3)
     rwa [show ((i.toNat + q / 3 : Nat) : Int).toNat * k93.sz + q % 3 = i.toNat * 3 + q from by show _ * 3 + _ = _; omega] at h3)
   have HZ := Aside0.mk (df_zeros (d := k93) z93 [Value.string ⟨#[]⟩, Value.int .i64 0, Value.int .i64 0] rfl (fun W => k93_mkM _ _ _ z93) (xs.length - i.toNat) i.toNat dk wr (by omega) HR.out)
   have HJ := Aside0.mk hje
   clear hlt hje hfi h0 h1 hcc
   go_wp2
   go_ret
   obtain ⟨ys, ht, hR', hg'⟩ := HZ.out
   have hyl := (Kd.R_reads' hR').1
   have hi := H0.out
   have hj := H1.out
   have hjj := HJ.out
   refine ⟨_, rfl, ?_, HB.out.grown hg' HB.out.size (fun k hk => by cases hk; exact HG0.out), Kept.of_grown hg' HK.out (fun k hk => by cases hk; exact .inl rfl)⟩
   rw [HFI.out, ← ht]
   exact Kd.R_take hR' (by omega)
theorem impl_Hold_77.calls (v : Value) (xs : List S93) (gf : Nat) (lb : Array Value) (p : S93 → Bool) (ok : Nat → Prop) (w0 w : World) (hB : Below w0.heap.size w0 w) (hR : Kd.R k93 93 w w0.heap.size ok v xs)
  (eg : ∀ args w, (callFunc gf args).run Try.prog w = .ok (.enter gf args) w)
  (hp : ∀ (W : World) (x : S93), Kept w W (fun k => some k = v.ownBlock) → Calls Try.prog gf (#[.agg #[.string x.f0, .int .i64 x.f1, .int .i64 x.f2]] ++ lb) W fun e w' => e = .returned (.bool (p x)) ∧ Below W.heap.size W w') :
  Calls Try.prog 77 #[v, .func (.func gf) #[] lb] w fun e w' => ∃ v', e = .returned v' ∧ Kd.R k93 93 w' w0.heap.size ok v' (xs.filter (fun x => !p x)) ∧ Below w0.heap.size w0 w' ∧ Kept w w' (fun k => some k = v.ownBlock) := by
 cases hf : xs.findIdx? p with
 | none =>
  rw [List.findIdx?_eq_none_iff] at hf
  exact impl_Hold_77.calls_none v xs gf lb p ok w0 w hB hR eg hp (fun j hj => hf _ (List.getElem_mem _))
 | some i =>
  rw [List.findIdx?_eq_some_iff_getElem] at hf
  obtain ⟨hi, h1, h2⟩ := hf
  obtain ⟨g, cap, rfl, _⟩ := Kd.R_form hR (by omega)
  refine (impl_Hold_77.calls_some g cap xs gf lb p ok w0 w hB hR eg (fun W x hk => hp W x (Kept.mono hk (fun k e => by subst e; rfl))) i hi h1 (fun j hj => by simpa using h2 j hj)).mono ?_
  rintro e w' ⟨v', rfl, hr, hb, hk⟩
  exact ⟨v', rfl, hr, hb, Kept.mono hk (fun k e => by subst e; rfl)⟩

/-! ### impl_Hold_78: function 78 -/
def impl_Hold_78.f (l0 : List (S93)) : Option ((List (S93))) := (some (([] : List (S93)) : List (S93))).bind fun y141 => (if y141.length + l0.length < 4398046511104 then (some (y141 ++ l0)) else (none))
set_option maxHeartbeats 8000000 in
set_option maxRecDepth 100000 in
theorem impl_Hold_78.calls_some (ad0 : Addr) (c0 : Nat) (l0 : List (S93)) (r : List (S93)) (w : World) (hr0 : Kd.C k93 w (some ad0) l0.length l0) (hc0 : l0.length ≤ c0) (h : impl_Hold_78.f l0 = some r) :
  Calls Try.prog 78 #[.slice (some ad0) l0.length c0] w fun e w' => ∃ v0_ : Value, e = .returned (v0_) ∧ Kd.R k93 93 w' w.heap.size (fun _ => True) v0_ r ∧ Below w.heap.size w w' := by
 have q0_ : ∀ (n c : Nat) (W : World), (binOp .eql 24 (.slice (some ad0) n c) (.slice none 0 0)).run Try.prog W = .ok (.bool false) W := fun n c W => Lib.run_eql_slice_nil W _ _ (some ad0) n c 0 0 Try.underlying24
 have HR0 := Aside0.mk hr0
 have HC0 := Aside0.mk hc0
 clear hr0 hc0
 have HB := Aside0.mk (Below.refl w.heap.size w)
 have H : ((some (([] : List (S93)) : List (S93))).bind fun y141 => (if y141.length + l0.length < 4398046511104 then (some (y141 ++ l0)) else (none))) = some r := h
 clear h
 obtain ⟨y141, hy141⟩ : ∃ y_ : List (S93), y_ = (([] : List (S93))) := ⟨_, rfl⟩
 replace H : (if y141.length + l0.length < 4398046511104 then (some (y141 ++ l0)) else (none)) = some r := by first | (rw [hy141]; with_reducible exact H) | (have H2_ := (Option.bind_some _ _).symm.trans H; rw [hy141]; with_reducible exact H2_) | (have H2_ := (Option.bind_some _ _).symm.trans H; with_reducible exact H2_) | with_reducible exact H | (rw [hy141]; exact H) | exact H
 have Ny141 := Aside0.mk hy141
 clear hy141
 by_cases c2 : y141.length + l0.length < 4398046511104
 ·rw [if_pos c2] at H
  have LMc2 := Aside0.mk c2
  clear c2
  obtain ⟨y144, hy144⟩ : ∃ y_ : List (S93), y_ = (y141 ++ l0) := ⟨_, rfl⟩
  replace H : (some y144) = some r := by first | (rw [hy144]; with_reducible exact H) | (have H2_ := (Option.bind_some _ _).symm.trans H; rw [hy144]; with_reducible exact H2_) | (have H2_ := (Option.bind_some _ _).symm.trans H; with_reducible exact H2_) | with_reducible exact H | (rw [hy144]; exact H) | exact H
  have Ny144 := Aside0.mk hy144
  clear hy144
  obtain rfl := Option.some.inj H
  go_enter Try.func78, Try.ntmps78
  go_wp2_with (first | ((with_reducible refine gate_dst (N := 5) rfl ?_); refine Kd.R_lit k93 _ 93 ?hg (N := 5) ?hd (xs := ([] : List (S93))) (inner := []) (ok := fun _ => True) (okp := fun _ => True) ?hr ?hp (fun _ hk => hk) trivial (Below.refl _ _) (Nat.le_refl _) (by simp) ?_; (case hd => rfl); (case hg => rfl); (case hr => first | (go_simp; done) | (go_simp; rfl)); (case hp => exact (Reps.none _ _)); intro v142 w3 ho4 hb hg_ hnew_; clear hg_ hnew_; (first | rw [← Ny141.out] at ho4 | (simp only [Int.reduceToNat] at ho4; rw [← Ny141.out] at ho4)); have n0_ := Aside0.mk (Kd.R_lower ho4 (below_size bl_)); have n1_ := Aside0.mk (below_step bl_ hb); clear HB; have HO143 := n0_; have HB := n1_; clear n0_ n1_; clear hb ho4) | ((with_reducible refine gate_builtin (b := .append) (xs := #[.tmp 5, .tmp 6]) rfl ?_); at_builtin; refine Kd.R_append_rows k93 (w0 := w) w.heap.size rfl (.tmp 5) (.tmp 6) 24 93 (.agg #[(.string ⟨#[]⟩), (.int .i64 0), (.int .i64 0)]) 32 rfl Try.underlying24 info93 rfl (by decide) (by omega) v142 y141 l0 _ _ _ (fun _ => True) (fun _ => False) rfl rfl ?aO ?aR (fun _ _ h => h) (fun _ h => h.elim) ?aF ?aB ?aS ?aL ?_; (case aR => exact ca_ (Kd.C_below HR0.out HB.out)); (case aB => exact bl_); (case aF => exact (fun _ _ => trivial)); (case aO => exact (ra_ HO143)); (case aS => exact (below_size bl_)); (case aL => have := LMc2.out; omega); intro v145 w5 ho hb hg hat; rw [← Ny144.out] at ho; have n0_ := Aside0.mk (hb); have n1_ := Aside0.mk (ho); clear HB; clear HO143; have HB := n0_; have HO146 := n1_; clear n0_ n1_; clear ho hb hg hat))
  go_ret
  exact ⟨_, by first | rfl | (simp [errW_none, errW_some] <;> rfl) | (simp [*, errW_none, errW_some] <;> rfl), ra_ HO146, bl_⟩
 ·rw [if_neg c2] at H
  exact absurd H (by simp)

set_option maxHeartbeats 8000000 in
set_option maxRecDepth 100000 in
theorem impl_Hold_78.calls_none (c0 : Nat) (l0 : List (S93)) (r : List (S93)) (w : World) (hr0 : Kd.C k93 w none l0.length l0) (hc0 : l0.length ≤ c0) (h : impl_Hold_78.f l0 = some r) :
  Calls Try.prog 78 #[.slice none l0.length c0] w fun e w' => ∃ v0_ : Value, e = .returned (v0_) ∧ Kd.R k93 93 w' w.heap.size (fun _ => True) v0_ r ∧ Below w.heap.size w w' := by
 have q0_ : ∀ (n c : Nat) (W : World), (binOp .eql 24 (.slice none n c) (.slice none 0 0)).run Try.prog W = .ok (.bool true) W := fun n c W => Lib.run_eql_slice_nil W _ _ none n c 0 0 Try.underlying24
 have hn : l0 = [] := List.eq_nil_of_length_eq_zero (Nat.eq_zero_of_not_pos (fun hp => by obtain ⟨a, ha, _⟩ := hr0.2.2 hp; cases ha))
 subst hn
 have hr : r = [] := by simp [impl_Hold_78.f] at h; first | exact h | exact h.symm
 subst hr
 clear hr0 hc0 h
 go_enter Try.func78, Try.ntmps78
 go_wp2
 go_ret
 exact ⟨_, rfl, Kd.R_nil _ _ _ _ _, by repeat (first | exact Below.refl _ _ | apply below_alloc | apply pw_below_drewN | apply below_drew1)⟩
set_option maxHeartbeats 8000000 in
set_option maxRecDepth 100000 in
theorem impl_Hold_78.calls (A0 : Option Addr) (c0 : Nat) (l0 : List (S93)) (r : List (S93)) (w : World) (hr0 : Kd.C k93 w A0 l0.length l0) (hc0 : l0.length ≤ c0) (h : impl_Hold_78.f l0 = some r) :
  Calls Try.prog 78 #[.slice A0 l0.length c0] w fun e w' => ∃ v0_ : Value, e = .returned (v0_) ∧ Kd.R k93 93 w' w.heap.size (fun _ => True) v0_ r ∧ Below w.heap.size w w' := by
 cases A0 with
 | none => exact impl_Hold_78.calls_none c0 l0 r w hr0 hc0 h
 | some ad0 => exact impl_Hold_78.calls_some ad0 c0 l0 r w hr0 hc0 h

/-! ### impl_Live: function 84 -/
def impl_Live.f (a0_0 : ByteArray) (a0_1 : Int) (a0_2 : Int) (a1 : Int) : Option (Bool) := some (decide (a0_2 > a1))
set_option maxHeartbeats 8000000 in
set_option maxRecDepth 100000 in
theorem impl_Live.calls (a0_0 : ByteArray) (a0_1 : Int) (a0_2 : Int) (a1 : Int) (r : Bool) (w : World) (h : impl_Live.f a0_0 a0_1 a0_2 a1 = some r) :
  Calls Try.prog 84 #[.agg #[.string a0_0, .int .i64 a0_1, .int .i64 a0_2], .int .i64 a1] w fun e w' => e = .returned (.bool r) ∧ Below w.heap.size w w' := by
 have hu93 := Try.underlying93
 have HB := Aside0.mk (Below.refl w.heap.size w)
 have H : (some (decide (a0_2 > a1))) = some r := h
 clear h
 obtain rfl := Option.some.inj H
 go_enter Try.func84, Try.ntmps84
 go_wp2_with (first | ((with_reducible refine gate_dst (N := 2) rfl ?_); refine box_event ?hg (N := 2) ?hd (cs := #[.string a0_0, .int .i64 a0_1, .int .i64 a0_2]) (t := 93) ?hr ?_; (case hd => rfl); (case hg => rfl); (case hr => first | (go_simp; done) | (go_simp; rfl)); intro gb147 hg w3 hbox hb; have n0_ := Aside0.mk (below_step bl_ hb); have n1_ := Aside0.mk (hbox); have n2_ := gw_ (w := w) hg; have n3_ := gw_ (w := w) hg; clear HB; have HB := n0_; have BK147 := n1_; have GW147 := n2_; have GE147 := n3_; clear n0_ n1_ n2_ n3_; clear hb hbox hg; have hcz4_0 := cz_ BK147 0 (.string a0_0); have hcz4_1 := cz_ BK147 1 (.int .i64 a0_1); have hcz4_2 := cz_ BK147 2 (.int .i64 a0_2); have hfz4_0 := fz_ BK147 0; have hfz4_1 := fz_ BK147 1; have hfz4_2 := fz_ BK147 2))
 go_ret
 exact ⟨sq_, bl_⟩

-- NOT PRINTED: function 83 (impl_LiveOnes_1)

/-! ### impl_LiveOnes: function 23 -/
set_option maxRecDepth 100000 in
theorem impl_LiveOnes.clo (x : S93) (a1 : Int) (B : Nat) (w : World) (ha : w.heap[B]? = some (.cells #[.int .i64 a1] 3 (0, 0))) :
  Calls Try.prog 83 #[.agg #[.string x.f0, .int .i64 x.f1, .int .i64 x.f2], .pointer (some ⟨B, 0, none⟩)] w fun e w' => e = .returned (.bool (!decide (x.f2 > a1))) ∧ Below w.heap.size w w' := by
 have hu93 := Try.underlying93
 have hlta := blk_lt ha
 have hca := blk_cell ha 0
 have hfa := blk_frozen ha 0
 clear ha
 go_enter Try.func83, Try.ntmps83
 go_wp2_with (go_at_call 84; refine (impl_Live.calls _ _ _ _ _ _ rfl).mono ?_; rintro e w' ⟨rfl, hb⟩)
 go_ret
 exact ⟨by first | rfl | simp, by first | exact below_then (below_alloc (Below.refl _ _) _) (by simp) (by assumption) | (repeat (first | exact Below.refl _ _ | apply below_alloc | apply pw_below_drewN | apply below_drew1))⟩
def impl_LiveOnes.f (l0 : List S93) (a1 : Int) : Option (List S93) := (impl_Hold_78.f l0).bind fun l => some (l.filter (fun x => !(!decide (x.f2 > a1))))
set_option maxHeartbeats 2000000 in
set_option maxRecDepth 100000 in
theorem impl_LiveOnes.calls (A0 : Option Addr) (c0 : Nat) (l0 : List (S93)) (a1 : Int) (r : List (S93)) (w : World) (hr0 : Kd.C k93 w A0 l0.length l0) (hc0 : l0.length ≤ c0) (h : impl_LiveOnes.f l0 a1 = some r) :
  Calls Try.prog 23 #[.slice A0 l0.length c0, .int .i64 a1] w fun e w' => ∃ v0_ : Value, e = .returned (v0_) ∧ Kd.R k93 93 w' w.heap.size (fun _ => True) v0_ r ∧ Below w.heap.size w w' := by
 obtain ⟨l, hl, h⟩ := Option.bind_eq_some_iff.1 h
 obtain rfl := Option.some.inj h
 clear h
 have HR0 := Aside0.mk hr0
 have HC0 := Aside0.mk hc0
 have HL := Aside0.mk hl
 clear hr0 hc0 hl
 go_enter Try.func23, Try.ntmps23
 go_wp2_with (first | (go_at_call 78; refine (impl_Hold_78.calls A0 c0 l0 l _ (Kd.C_alloc HR0.out _) HC0.out HL.out).mono ?_; rintro e w2 ⟨v, rfl, ho, hb⟩; have HO := Aside0.mk ho; have HB := Aside0.mk hb; clear ho hb) | (go_at_call 77; refine (impl_Hold_77.calls v l 83 #[.pointer (some ⟨w.heap.size, 0, none⟩)] (fun x => !decide (x.f2 > a1)) (fun _ => True) w _ (below_then (below_alloc (Below.refl _ _) _) (by simp) HB.out) (Kd.R_lower HO.out (by simp)) (fun _ _ => by kernel_rfl) (fun W x hk => impl_LiveOnes.clo x a1 w.heap.size W ((hk.2 w.heap.size (by have := HB.out.size; simp at this; omega) (fun e => by have := Kd.R_base HO.out _ e.symm; simp at this; omega)).trans ((HB.out.block _ (by simp)).trans (heap_alloc_new w _))))).mono ?_; rintro e w3 ⟨v', rfl, hr, hb, _⟩))
 go_ret
 exact ⟨v', rfl, hr, hb⟩

/-! ### laws_FnExactLiveOnes: function 4 -/
def laws_FnExactLiveOnes.j0 : Nat → List (S89) → Int → List (S93) → List (S93) → Bool → Option (Bool)
 | 0, _, _, _, _, _ => none
 | k + 1, x0, x1, x6, x8, x46 => if x46 = true then (some false) else ((laws_markHoldS.f k x8 1).bind fun bt170 => ((laws_heldHoldS.f k bt170.2 1).bind fun t172 => (if t172 < 0 then (some false) else (if t172 = bt170.1 then ((laws_toHoldS.f k x0).bind fun t173 => ((impl_LiveOnes.f t173 x1).bind fun t176 => ((laws_eqHoldS.f k t176 x6).bind fun t179 => (if t179 = true then ((laws_heldHoldS.f k bt170.2 1).bind fun t180 => (if t180 < 0 then (some false) else (if t180 = bt170.1 then (some true) else (some false)))) else (some false))))) else (some false)))))
def laws_FnExactLiveOnes.f (k : Nat) (l0 : List (S89)) (a1 : Int) : Option (Bool) := (laws_szHoldS.f k l0 1048576).bind fun t149 => (if t149 < 0 then (some true) else ((laws_toHoldS.f k l0).bind fun t150 => ((spec_LiveOnes.f k t150 a1).bind fun t153 => ((laws_toHoldS.f k l0).bind fun t156 => ((impl_LiveOnes.f t156 a1).bind fun t159 => ((laws_eqHoldS.f k t159 t153).bind fun t162 => (if t162 = true then ((laws_toHoldS.f k l0).bind fun t163 => ((laws_eqHoldS.f k t156 t163).bind fun t166 => (if t166 = true then ((laws_markHoldS.f k t156 1).bind fun bt167 => (if bt167.1 < 0 then (laws_FnExactLiveOnes.j0 k l0 a1 t153 t159 true) else ((laws_eqHoldS.f k t159 t153).bind fun t169 => (laws_FnExactLiveOnes.j0 k l0 a1 t153 t159 (!t169))))) else (some false)))) else (some false))))))))
theorem laws_FnExactLiveOnes.mono_l : ∀ k, (∀ y0 y1 y2 y3 y4, LeO (laws_FnExactLiveOnes.j0 k y0 y1 y2 y3 y4) (laws_FnExactLiveOnes.j0 (k + 1) y0 y1 y2 y3 y4))
 | 0 => fun _ _ _ _ _ r h => by simp [laws_FnExactLiveOnes.j0] at h
 | k + 1 => by
  have ih0 := laws_FnExactLiveOnes.mono_l k
  ·intro y0 y1 y2 y3 y4
   unfold laws_FnExactLiveOnes.j0
   repeat' first
   | (with_reducible exact ih0 _ _ _ _ _)
   | (with_reducible exact laws_eqHoldS.mono _ _ _)
   | (with_reducible exact laws_heldHoldS.mono _ _ _)
   | (with_reducible exact laws_markHoldS.mono _ _ _)
   | (with_reducible exact laws_szHoldS.mono _ _ _)
   | (with_reducible exact laws_toHoldS.mono _ _)
   | (with_reducible exact spec_LiveOnes.mono _ _ _)
   | (with_reducible exact LeO.refl _)
   | (with_reducible exact LeO.none _)
   | (with_reducible refine LeO.ite ?_ ?_)
   | (with_reducible refine LeO.bind ?_ (fun _ => ?_))
   | exact ih0 _ _ _ _ _
   | exact laws_eqHoldS.mono _ _ _
   | exact laws_heldHoldS.mono _ _ _
   | exact laws_markHoldS.mono _ _ _
   | exact laws_szHoldS.mono _ _ _
   | exact laws_toHoldS.mono _ _
   | exact spec_LiveOnes.mono _ _ _
   | exact LeO.none _
   | refine LeO.ite ?_ ?_
   | refine LeO.bind ?_ (fun _ => ?_)
theorem laws_FnExactLiveOnes.mono : ∀ a0 a1 k, LeO (laws_FnExactLiveOnes.f k a0 a1) (laws_FnExactLiveOnes.f (k + 1) a0 a1) := by
 intro a0 a1 k
 have ih0 := laws_FnExactLiveOnes.mono_l k
 unfold laws_FnExactLiveOnes.f
 repeat' first
   | (with_reducible exact ih0 _ _ _ _ _)
   | (with_reducible exact laws_eqHoldS.mono _ _ _)
   | (with_reducible exact laws_heldHoldS.mono _ _ _)
   | (with_reducible exact laws_markHoldS.mono _ _ _)
   | (with_reducible exact laws_szHoldS.mono _ _ _)
   | (with_reducible exact laws_toHoldS.mono _ _)
   | (with_reducible exact spec_LiveOnes.mono _ _ _)
   | (with_reducible exact LeO.refl _)
   | (with_reducible exact LeO.none _)
   | (with_reducible refine LeO.ite ?_ ?_)
   | (with_reducible refine LeO.bind ?_ (fun _ => ?_))
   | exact ih0 _ _ _ _ _
   | exact laws_eqHoldS.mono _ _ _
   | exact laws_heldHoldS.mono _ _ _
   | exact laws_markHoldS.mono _ _ _
   | exact laws_szHoldS.mono _ _ _
   | exact laws_toHoldS.mono _ _
   | exact spec_LiveOnes.mono _ _ _
   | exact LeO.none _
   | refine LeO.ite ?_ ?_
   | refine LeO.bind ?_ (fun _ => ?_)
set_option maxHeartbeats 8000000 in
set_option maxRecDepth 100000 in
theorem laws_FnExactLiveOnes.calls (k : Nat) (A0 : Option Addr) (c0 : Nat) (l0 : List (S89)) (a1 : Int) (r : Bool) (w : World) (hr0 : Kd.C k89 w A0 l0.length l0) (hc0 : l0.length ≤ c0) (h : laws_FnExactLiveOnes.f k l0 a1 = some true) :
  Calls Try.prog 4 #[.slice A0 l0.length c0, .int .i64 a1] w fun e w' => e = .returned (.bool true) ∧ Below w.heap.size w w' := by
 have HR0 := Aside0.mk hr0
 have HC0 := Aside0.mk hc0
 clear hr0 hc0
 have HB := Aside0.mk (Below.refl w.heap.size w)
 have H : ((laws_szHoldS.f k l0 1048576).bind fun t149 => (if t149 < 0 then (some true) else ((laws_toHoldS.f k l0).bind fun t150 => ((spec_LiveOnes.f k t150 a1).bind fun t153 => ((laws_toHoldS.f k l0).bind fun t156 => ((impl_LiveOnes.f t156 a1).bind fun t159 => ((laws_eqHoldS.f k t159 t153).bind fun t162 => (if t162 = true then ((laws_toHoldS.f k l0).bind fun t163 => ((laws_eqHoldS.f k t156 t163).bind fun t166 => (if t166 = true then ((laws_markHoldS.f k t156 1).bind fun bt167 => (if bt167.1 < 0 then (laws_FnExactLiveOnes.j0 k l0 a1 t153 t159 true) else ((laws_eqHoldS.f k t159 t153).bind fun t169 => (laws_FnExactLiveOnes.j0 k l0 a1 t153 t159 (!t169))))) else (some false)))) else (some false))))))))) = some true := h
 clear h
 replace H := Option.bind_eq_some_iff.mp H
 obtain ⟨t149, A30, H⟩ := H
 replace H : (if t149 < 0 then (some true) else ((laws_toHoldS.f k l0).bind fun t150 => ((spec_LiveOnes.f k t150 a1).bind fun t153 => ((laws_toHoldS.f k l0).bind fun t156 => ((impl_LiveOnes.f t156 a1).bind fun t159 => ((laws_eqHoldS.f k t159 t153).bind fun t162 => (if t162 = true then ((laws_toHoldS.f k l0).bind fun t163 => ((laws_eqHoldS.f k t156 t163).bind fun t166 => (if t166 = true then ((laws_markHoldS.f k t156 1).bind fun bt167 => (if bt167.1 < 0 then (laws_FnExactLiveOnes.j0 k l0 a1 t153 t159 true) else ((laws_eqHoldS.f k t159 t153).bind fun t169 => (laws_FnExactLiveOnes.j0 k l0 a1 t153 t159 (!t169))))) else (some false)))) else (some false)))))))) = some true := H
 have A3 := Aside0.mk A30
 clear A30
 by_cases c4 : t149 < 0
 ·rw [if_pos c4] at H
  have c4b0 : decide (t149 < 0) = true := decide_eq_true c4
  clear c4
  clear H
  go_enter Try.func4, Try.ntmps4
  go_wp2_with (first | ((with_reducible refine gate_callee (f := 15) rfl ?_); refine goesL_ (some 15) rfl rfl Try.func15 (by kernel_rfl) rfl #[.slice A0 l0.length c0, .int .i64 1048576] rfl gl_ ?_; (with_reducible refine (laws_szHoldS.calls k _ _ l0 1048576 t149 _ ?side1 ?side2 A3.out).mono ?_); (case side1 => exact ca_ (HR0.out)); (case side2 => exact HC0.out); rintro e w5 ⟨rfl, hb⟩; refine ⟨_, rfl, ?_⟩; have n0_ := Aside0.mk (below_step bl_ hb); clear HB; have HB := n0_; clear n0_; (try clear hb); (try clear hb2); (try clear hk); (try clear hi)))
  go_ret
  exact ⟨sq_, bl_⟩
 ·rw [if_neg c4] at H
  have c4b0 : decide (t149 < 0) = false := decide_eq_false c4
  clear c4
  replace H := Option.bind_eq_some_iff.mp H
  obtain ⟨t150, A60, H⟩ := H
  replace H : ((spec_LiveOnes.f k t150 a1).bind fun t153 => ((laws_toHoldS.f k l0).bind fun t156 => ((impl_LiveOnes.f t156 a1).bind fun t159 => ((laws_eqHoldS.f k t159 t153).bind fun t162 => (if t162 = true then ((laws_toHoldS.f k l0).bind fun t163 => ((laws_eqHoldS.f k t156 t163).bind fun t166 => (if t166 = true then ((laws_markHoldS.f k t156 1).bind fun bt167 => (if bt167.1 < 0 then (laws_FnExactLiveOnes.j0 k l0 a1 t153 t159 true) else ((laws_eqHoldS.f k t159 t153).bind fun t169 => (laws_FnExactLiveOnes.j0 k l0 a1 t153 t159 (!t169))))) else (some false)))) else (some false)))))) = some true := H
  have A6 := Aside0.mk A60
  clear A60
  replace H := Option.bind_eq_some_iff.mp H
  obtain ⟨t153, A70, H⟩ := H
  replace H : ((laws_toHoldS.f k l0).bind fun t156 => ((impl_LiveOnes.f t156 a1).bind fun t159 => ((laws_eqHoldS.f k t159 t153).bind fun t162 => (if t162 = true then ((laws_toHoldS.f k l0).bind fun t163 => ((laws_eqHoldS.f k t156 t163).bind fun t166 => (if t166 = true then ((laws_markHoldS.f k t156 1).bind fun bt167 => (if bt167.1 < 0 then (laws_FnExactLiveOnes.j0 k l0 a1 t153 t159 true) else ((laws_eqHoldS.f k t159 t153).bind fun t169 => (laws_FnExactLiveOnes.j0 k l0 a1 t153 t159 (!t169))))) else (some false)))) else (some false))))) = some true := H
  have A7 := Aside0.mk A70
  clear A70
  replace H := Option.bind_eq_some_iff.mp H
  obtain ⟨t156, A80, H⟩ := H
  replace H : ((impl_LiveOnes.f t156 a1).bind fun t159 => ((laws_eqHoldS.f k t159 t153).bind fun t162 => (if t162 = true then ((laws_toHoldS.f k l0).bind fun t163 => ((laws_eqHoldS.f k t156 t163).bind fun t166 => (if t166 = true then ((laws_markHoldS.f k t156 1).bind fun bt167 => (if bt167.1 < 0 then (laws_FnExactLiveOnes.j0 k l0 a1 t153 t159 true) else ((laws_eqHoldS.f k t159 t153).bind fun t169 => (laws_FnExactLiveOnes.j0 k l0 a1 t153 t159 (!t169))))) else (some false)))) else (some false)))) = some true := H
  have A8 := Aside0.mk A80
  clear A80
  replace H := Option.bind_eq_some_iff.mp H
  obtain ⟨t159, A90, H⟩ := H
  replace H : ((laws_eqHoldS.f k t159 t153).bind fun t162 => (if t162 = true then ((laws_toHoldS.f k l0).bind fun t163 => ((laws_eqHoldS.f k t156 t163).bind fun t166 => (if t166 = true then ((laws_markHoldS.f k t156 1).bind fun bt167 => (if bt167.1 < 0 then (laws_FnExactLiveOnes.j0 k l0 a1 t153 t159 true) else ((laws_eqHoldS.f k t159 t153).bind fun t169 => (laws_FnExactLiveOnes.j0 k l0 a1 t153 t159 (!t169))))) else (some false)))) else (some false))) = some true := H
  have A9 := Aside0.mk A90
  clear A90
  replace H := Option.bind_eq_some_iff.mp H
  obtain ⟨t162, A100, H⟩ := H
  replace H : (if t162 = true then ((laws_toHoldS.f k l0).bind fun t163 => ((laws_eqHoldS.f k t156 t163).bind fun t166 => (if t166 = true then ((laws_markHoldS.f k t156 1).bind fun bt167 => (if bt167.1 < 0 then (laws_FnExactLiveOnes.j0 k l0 a1 t153 t159 true) else ((laws_eqHoldS.f k t159 t153).bind fun t169 => (laws_FnExactLiveOnes.j0 k l0 a1 t153 t159 (!t169))))) else (some false)))) else (some false)) = some true := H
  have A10 := Aside0.mk A100
  clear A100
  by_cases c11 : t162 = true
  ·subst c11
   have H1 : ((laws_toHoldS.f k l0).bind fun t163 => ((laws_eqHoldS.f k t156 t163).bind fun t166 => (if t166 = true then ((laws_markHoldS.f k t156 1).bind fun bt167 => (if bt167.1 < 0 then (laws_FnExactLiveOnes.j0 k l0 a1 t153 t159 true) else ((laws_eqHoldS.f k t159 t153).bind fun t169 => (laws_FnExactLiveOnes.j0 k l0 a1 t153 t159 (!t169))))) else (some false)))) = some true := by rw [if_pos rfl] at H; exact H
   clear H
   have H := H1
   clear H1
   replace H := Option.bind_eq_some_iff.mp H
   obtain ⟨t163, A120, H⟩ := H
   replace H : ((laws_eqHoldS.f k t156 t163).bind fun t166 => (if t166 = true then ((laws_markHoldS.f k t156 1).bind fun bt167 => (if bt167.1 < 0 then (laws_FnExactLiveOnes.j0 k l0 a1 t153 t159 true) else ((laws_eqHoldS.f k t159 t153).bind fun t169 => (laws_FnExactLiveOnes.j0 k l0 a1 t153 t159 (!t169))))) else (some false))) = some true := H
   have A12 := Aside0.mk A120
   clear A120
   replace H := Option.bind_eq_some_iff.mp H
   obtain ⟨t166, A130, H⟩ := H
   replace H : (if t166 = true then ((laws_markHoldS.f k t156 1).bind fun bt167 => (if bt167.1 < 0 then (laws_FnExactLiveOnes.j0 k l0 a1 t153 t159 true) else ((laws_eqHoldS.f k t159 t153).bind fun t169 => (laws_FnExactLiveOnes.j0 k l0 a1 t153 t159 (!t169))))) else (some false)) = some true := H
   have A13 := Aside0.mk A130
   clear A130
   by_cases c14 : t166 = true
   ·subst c14
    have H1 : ((laws_markHoldS.f k t156 1).bind fun bt167 => (if bt167.1 < 0 then (laws_FnExactLiveOnes.j0 k l0 a1 t153 t159 true) else ((laws_eqHoldS.f k t159 t153).bind fun t169 => (laws_FnExactLiveOnes.j0 k l0 a1 t153 t159 (!t169))))) = some true := by rw [if_pos rfl] at H; exact H
    clear H
    have H := H1
    clear H1
    replace H := Option.bind_eq_some_iff.mp H
    obtain ⟨⟨t167, t168⟩, A150, H⟩ := H
    replace H : (if t167 < 0 then (laws_FnExactLiveOnes.j0 k l0 a1 t153 t159 true) else ((laws_eqHoldS.f k t159 t153).bind fun t169 => (laws_FnExactLiveOnes.j0 k l0 a1 t153 t159 (!t169)))) = some true := H
    have A15 := Aside0.mk A150
    clear A150
    have HC16 := Aside0.mk H
    clear H
    go_enter Try.func4, Try.ntmps4
    go_upto_region 14 with (first | ((with_reducible refine gate_callee (f := 15) rfl ?_); refine goesL_ (some 15) rfl rfl Try.func15 (by kernel_rfl) rfl #[.slice A0 l0.length c0, .int .i64 1048576] rfl gl_ ?_; (with_reducible refine (laws_szHoldS.calls k _ _ l0 1048576 t149 _ ?side1 ?side2 A3.out).mono ?_); (case side1 => exact ca_ (HR0.out)); (case side2 => exact HC0.out); rintro e w17 ⟨rfl, hb⟩; refine ⟨_, rfl, ?_⟩; have n0_ := Aside0.mk (below_step bl_ hb); clear HB; have HB := n0_; clear n0_; (try clear hb); (try clear hb2); (try clear hk); (try clear hi)) | ((with_reducible refine gate_callee (f := 17) rfl ?_); refine goesL_ (some 19) rfl rfl Try.func17 (by kernel_rfl) rfl #[.slice A0 l0.length c0] rfl gl_ ?_; (with_reducible refine (laws_toHoldS.calls k _ _ l0 t150 _ ?side1 ?side2 A6.out).mono ?_); (case side1 => exact ca_ (Kd.C_below HR0.out HB.out)); (case side2 => exact HC0.out); rintro e w18 ⟨v151, rfl, ho0, hb⟩; refine ⟨_, rfl, ?_⟩; have n0_ := Aside0.mk (Kd.R_lower ho0 (below_size bl_)); have n1_ := Aside0.mk (below_step bl_ hb); clear HB; have HO152 := n0_; have HB := n1_; clear n0_ n1_; (try clear hb); (try clear hb2); (try clear hk); (try clear hi); (try clear ho0); obtain ⟨Ao19, co19, eo19⟩ := Kd.R_slice HO152.out; subst eo19) | ((with_reducible refine gate_callee (f := 22) rfl ?_); refine goesL_ (some 21) rfl rfl Try.func22 (by kernel_rfl) rfl #[.slice Ao19 t150.length co19, .int .i64 a1] rfl gl_ ?_; (with_reducible refine (spec_LiveOnes.calls k _ _ t150 a1 t153 _ ?side1 ?side2 A7.out).mono ?_); (case side1 => exact ca_ ((Kd.R_reads' HO152.out).2.2)); (case side2 => exact (Kd.R_reads' HO152.out).2.1); rintro e w20 ⟨v154, rfl, ho0, hb⟩; refine ⟨_, rfl, ?_⟩; have n0_ := Aside0.mk (Kd.R_elder' (ra_ HO152) (Kd.R_base ho0) hb); have n1_ := Aside0.mk (Kd.R_lower (Kd.R_new' ho0 (Kd.R_lt (ra_ HO152))) (below_size bl_)); have n2_ := Aside0.mk (below_step bl_ hb); clear HO152; clear HB; have HO152 := n0_; have HO155 := n1_; have HB := n2_; clear n0_ n1_ n2_; (try clear hb); (try clear hb2); (try clear hk); (try clear hi); (try clear ho0)) | ((with_reducible refine gate_callee (f := 17) rfl ?_); refine goesL_ (some 23) rfl rfl Try.func17 (by kernel_rfl) rfl #[.slice A0 l0.length c0] rfl gl_ ?_; (with_reducible refine (laws_toHoldS.calls k _ _ l0 t156 _ ?side1 ?side2 A8.out).mono ?_); (case side1 => exact ca_ (Kd.C_below HR0.out HB.out)); (case side2 => exact HC0.out); rintro e w21 ⟨v157, rfl, ho0, hb⟩; refine ⟨_, rfl, ?_⟩; have n0_ := Aside0.mk (Kd.R_elder' (ra_ HO152) (Kd.R_base ho0) hb); have n1_ := Aside0.mk (Kd.R_elder' (ra_ HO155) (Kd.R_base ho0) hb); have n2_ := Aside0.mk (Kd.R_lower (Kd.R_new' (Kd.R_new' ho0 (Kd.R_lt (ra_ HO152))) (Kd.R_lt (ra_ HO155))) (below_size bl_)); have n3_ := Aside0.mk (below_step bl_ hb); clear HO152; clear HO155; clear HB; have HO152 := n0_; have HO155 := n1_; have HO158 := n2_; have HB := n3_; clear n0_ n1_ n2_ n3_; (try clear hb); (try clear hb2); (try clear hk); (try clear hi); (try clear ho0); obtain ⟨Ao22, co22, eo22⟩ := Kd.R_slice HO158.out; subst eo22) | ((with_reducible refine gate_callee (f := 23) rfl ?_); refine goesL_ (some 26) rfl rfl Try.func23 (by kernel_rfl) rfl #[.slice Ao22 t156.length co22, .int .i64 a1] rfl gl_ ?_; (with_reducible refine (impl_LiveOnes.calls _ _ t156 a1 t159 _ ?side1 ?side2 A9.out).mono ?_); (case side1 => exact ca_ ((Kd.R_reads' HO158.out).2.2)); (case side2 => exact (Kd.R_reads' HO158.out).2.1); rintro e w23 ⟨v160, rfl, ho0, hb⟩; refine ⟨_, rfl, ?_⟩; have n0_ := Aside0.mk (Kd.R_elder' (ra_ HO152) (Kd.R_base ho0) hb); have n1_ := Aside0.mk (Kd.R_elder' (ra_ HO155) (Kd.R_base ho0) hb); have n2_ := Aside0.mk (Kd.R_elder' (ra_ HO158) (Kd.R_base ho0) hb); have n3_ := Aside0.mk (Kd.R_lower (Kd.R_new' (Kd.R_new' (Kd.R_new' ho0 (Kd.R_lt (ra_ HO152))) (Kd.R_lt (ra_ HO155))) (Kd.R_lt (ra_ HO158))) (below_size bl_)); have n4_ := Aside0.mk (below_step bl_ hb); clear HO152; clear HO155; clear HO158; clear HB; have HO152 := n0_; have HO155 := n1_; have HO158 := n2_; have HO161 := n3_; have HB := n4_; clear n0_ n1_ n2_ n3_ n4_; (try clear hb); (try clear hb2); (try clear hk); (try clear hi); (try clear ho0); obtain ⟨Ao24, co24, eo24⟩ := Kd.R_slice HO161.out; subst eo24; obtain ⟨Ao25, co25, eo25⟩ := Kd.R_slice HO155.out; subst eo25) | ((with_reducible refine gate_callee (f := 19) rfl ?_); refine goesL_ (some 29) rfl rfl Try.func19 (by kernel_rfl) rfl #[.slice Ao24 t159.length co24, .slice Ao25 t153.length co25] rfl gl_ ?_; (with_reducible refine (laws_eqHoldS.calls k _ _ t159 _ _ t153 true _ ?side1 ?side2 ?side3 ?side4 A10.out).mono ?_); (case side1 => exact ca_ ((Kd.R_reads' HO161.out).2.2)); (case side2 => exact (Kd.R_reads' HO161.out).2.1); (case side3 => exact ca_ ((Kd.R_reads' HO155.out).2.2)); (case side4 => exact (Kd.R_reads' HO155.out).2.1); rintro e w26 ⟨rfl, hb⟩; refine ⟨_, rfl, ?_⟩; have n0_ := Aside0.mk (Kd.R_below (ra_ HO152) hb); have n1_ := Aside0.mk (Kd.R_below (ra_ HO155) hb); have n2_ := Aside0.mk (Kd.R_below (ra_ HO158) hb); have n3_ := Aside0.mk (Kd.R_below (ra_ HO161) hb); have n4_ := Aside0.mk (below_step bl_ hb); clear HO152; clear HO155; clear HO158; clear HO161; clear HB; have HO152 := n0_; have HO155 := n1_; have HO158 := n2_; have HO161 := n3_; have HB := n4_; clear n0_ n1_ n2_ n3_ n4_; (try clear hb); (try clear hb2); (try clear hk); (try clear hi)) | ((with_reducible refine gate_callee (f := 17) rfl ?_); refine goesL_ (some 33) rfl rfl Try.func17 (by kernel_rfl) rfl #[.slice A0 l0.length c0] rfl gl_ ?_; (with_reducible refine (laws_toHoldS.calls k _ _ l0 t163 _ ?side1 ?side2 A12.out).mono ?_); (case side1 => exact ca_ (Kd.C_below HR0.out HB.out)); (case side2 => exact HC0.out); rintro e w27 ⟨v164, rfl, ho0, hb⟩; refine ⟨_, rfl, ?_⟩; have n0_ := Aside0.mk (Kd.R_elder' (ra_ HO152) (Kd.R_base ho0) hb); have n1_ := Aside0.mk (Kd.R_elder' (ra_ HO155) (Kd.R_base ho0) hb); have n2_ := Aside0.mk (Kd.R_elder' (ra_ HO158) (Kd.R_base ho0) hb); have n3_ := Aside0.mk (Kd.R_elder' (ra_ HO161) (Kd.R_base ho0) hb); have n4_ := Aside0.mk (Kd.R_lower (Kd.R_new' (Kd.R_new' (Kd.R_new' (Kd.R_new' ho0 (Kd.R_lt (ra_ HO152))) (Kd.R_lt (ra_ HO155))) (Kd.R_lt (ra_ HO158))) (Kd.R_lt (ra_ HO161))) (below_size bl_)); have n5_ := Aside0.mk (below_step bl_ hb); clear HO152; clear HO155; clear HO158; clear HO161; clear HB; have HO152 := n0_; have HO155 := n1_; have HO158 := n2_; have HO161 := n3_; have HO165 := n4_; have HB := n5_; clear n0_ n1_ n2_ n3_ n4_ n5_; (try clear hb); (try clear hb2); (try clear hk); (try clear hi); (try clear ho0); obtain ⟨Ao28, co28, eo28⟩ := Kd.R_slice HO165.out; subst eo28) | ((with_reducible refine gate_callee (f := 19) rfl ?_); refine goesL_ (some 34) rfl rfl Try.func19 (by kernel_rfl) rfl #[.slice Ao22 t156.length co22, .slice Ao28 t163.length co28] rfl gl_ ?_; (with_reducible refine (laws_eqHoldS.calls k _ _ t156 _ _ t163 true _ ?side1 ?side2 ?side3 ?side4 A13.out).mono ?_); (case side1 => exact ca_ ((Kd.R_reads' HO158.out).2.2)); (case side2 => exact (Kd.R_reads' HO158.out).2.1); (case side3 => exact ca_ ((Kd.R_reads' HO165.out).2.2)); (case side4 => exact (Kd.R_reads' HO165.out).2.1); rintro e w29 ⟨rfl, hb⟩; refine ⟨_, rfl, ?_⟩; have n0_ := Aside0.mk (Kd.R_below (ra_ HO152) hb); have n1_ := Aside0.mk (Kd.R_below (ra_ HO155) hb); have n2_ := Aside0.mk (Kd.R_below (ra_ HO158) hb); have n3_ := Aside0.mk (Kd.R_below (ra_ HO161) hb); have n4_ := Aside0.mk (Kd.R_below (ra_ HO165) hb); have n5_ := Aside0.mk (below_step bl_ hb); clear HO152; clear HO155; clear HO158; clear HO161; clear HO165; clear HB; have HO152 := n0_; have HO155 := n1_; have HO158 := n2_; have HO161 := n3_; have HO165 := n4_; have HB := n5_; clear n0_ n1_ n2_ n3_ n4_ n5_; (try clear hb); (try clear hb2); (try clear hk); (try clear hi)) | ((with_reducible refine gate_callee (f := 20) rfl ?_); refine goesL_ (some 38) rfl rfl Try.func20 (by kernel_rfl) rfl #[.slice Ao22 t156.length co22, .int .i64 1] rfl gl_ ?_; (with_reducible refine (laws_markHoldS.calls k (fun k_ => some k_ = (.slice Ao22 t156.length co22 : Value).ownBlock) (.slice Ao22 t156.length co22) t156 1 t167 t168 w _ ?side1 ?side2 A15.out).mono ?_); (case side1 => repeat (first | (with_reducible first | exact HB.out | apply below_alloc | apply pw_below_drewN | apply below_drew1) | exact HB.out)); (case side2 => exact Kd.R_tight rfl HO158.out); rintro e w30 ⟨rfl, hy0, hb, hkp⟩; refine ⟨_, rfl, ?_⟩; have n0_ := Aside0.mk (Kd.R_mono (ok' := fun k_ => some k_ ≠ (.slice Ao25 t153.length co25 : Value).ownBlock ∧ some k_ ≠ (.slice Ao22 t156.length co22 : Value).ownBlock ∧ some k_ ≠ (.slice Ao24 t159.length co24 : Value).ownBlock ∧ some k_ ≠ (.slice Ao28 t163.length co28 : Value).ownBlock) (Kd.R_keptB (HO152.out) hkp (fun k_ hk_ hs_ => (hk_.1.1.2) hs_)) (fun k_ hk_ => ⟨hk_.1.1.1.1.2, hk_.1.1.1.2, hk_.1.1.2, hk_.1.2⟩)); have n1_ := Aside0.mk (Kd.R_mono (ok' := fun k_ => some k_ ≠ (.slice Ao19 t150.length co19 : Value).ownBlock ∧ some k_ ≠ (.slice Ao22 t156.length co22 : Value).ownBlock ∧ some k_ ≠ (.slice Ao24 t159.length co24 : Value).ownBlock ∧ some k_ ≠ (.slice Ao28 t163.length co28 : Value).ownBlock) (Kd.R_keptB (HO155.out) hkp (fun k_ hk_ hs_ => (hk_.1.1.2) hs_)) (fun k_ hk_ => ⟨hk_.1.1.1.1.2, hk_.1.1.1.2, hk_.1.1.2, hk_.1.2⟩)); have n2_ := Aside0.mk (Kd.R_reok rfl hy0 (fun k_ e_ => HO158.out.1 k_ e_)); have n3_ := Aside0.mk (Kd.R_mono (ok' := fun k_ => some k_ ≠ (.slice Ao19 t150.length co19 : Value).ownBlock ∧ some k_ ≠ (.slice Ao25 t153.length co25 : Value).ownBlock ∧ some k_ ≠ (.slice Ao22 t156.length co22 : Value).ownBlock ∧ some k_ ≠ (.slice Ao28 t163.length co28 : Value).ownBlock) (Kd.R_keptB (HO161.out) hkp (fun k_ hk_ hs_ => (hk_.1.2) hs_)) (fun k_ hk_ => ⟨hk_.1.1.1.1.2, hk_.1.1.1.2, hk_.1.1.2, hk_.1.2⟩)); have n4_ := Aside0.mk (Kd.R_mono (ok' := fun k_ => some k_ ≠ (.slice Ao19 t150.length co19 : Value).ownBlock ∧ some k_ ≠ (.slice Ao25 t153.length co25 : Value).ownBlock ∧ some k_ ≠ (.slice Ao22 t156.length co22 : Value).ownBlock ∧ some k_ ≠ (.slice Ao24 t159.length co24 : Value).ownBlock) (Kd.R_keptB (HO165.out) hkp (fun k_ hk_ hs_ => (hk_.1.2) hs_)) (fun k_ hk_ => ⟨hk_.1.1.1.1.2, hk_.1.1.1.2, hk_.1.1.2, hk_.1.2⟩)); have n5_ := Aside0.mk (hb); clear HO152; clear HO155; clear HO158; clear HO161; clear HO165; clear HB; have HO152 := n0_; have HO155 := n1_; have HO158 := n2_; have HO161 := n3_; have HO165 := n4_; have HB := n5_; clear n0_ n1_ n2_ n3_ n4_ n5_; (try clear hb); (try clear hkp); (try clear hy0)))
    (try simp only [Act.put, List.setIfInBounds_toArray, List.set_cons_zero, List.set_cons_succ])
    go_cut [46] (fun v46 wc => ∃ (kq : Nat) (x46_15 : Bool), v46 = .bool x46_15 ∧ Aside0 (laws_FnExactLiveOnes.j0 kq l0 a1 t153 t159 x46_15 = some true) ∧ Aside0 (kq ≤ k) ∧ Aside0 (Kd.R k93 93 wc w.heap.size (fun k_ => some k_ ≠ ((.slice Ao24 t159.length co24) : Value).ownBlock) (.slice Ao25 t153.length co25) t153) ∧ Aside0 (Kd.R k93 93 wc w.heap.size (fun k_ => some k_ ≠ ((.slice Ao25 t153.length co25) : Value).ownBlock) (.slice Ao24 t159.length co24) t159) ∧ Aside0 (Below w.heap.size w wc))
    case first =>
     have H := HC16.out
     clear HC16
     by_cases c31 : t167 < 0
     ·rw [if_pos c31] at H
      have c31b0 : decide (t167 < 0) = true := decide_eq_true c31
      clear c31
      (first | rw [c31b0] | (simp only [i64_w, i32_w]; rw [c31b0]) | skip)
      have H' := Aside0.mk H
      clear H
      go_wp2
      go_meet
      case rel => exact ⟨_, (true), sp_, H', ⟨by first | omega | exact Nat.le_refl _⟩, ⟨by (with_reducible repeat (first | apply Kd.R_alloc | apply Kd.R_drewN | apply Kd.R_drew)); exact Kd.R_mono HO155.out (fun _ hk => hk.2.2.1)⟩, ⟨by (with_reducible repeat (first | apply Kd.R_alloc | apply Kd.R_drewN | apply Kd.R_drew)); exact Kd.R_mono HO161.out (fun _ hk => hk.2.1)⟩, ⟨bl_⟩⟩
     ·rw [if_neg c31] at H
      have c31b0 : decide (t167 < 0) = false := decide_eq_false c31
      clear c31
      (first | rw [c31b0] | (simp only [i64_w, i32_w]; rw [c31b0]) | skip)
      replace H := Option.bind_eq_some_iff.mp H
      obtain ⟨t169, A320, H⟩ := H
      replace H : (laws_FnExactLiveOnes.j0 k l0 a1 t153 t159 (!t169)) = some true := H
      have A32 := Aside0.mk A320
      clear A320
      have H' := Aside0.mk H
      clear H
      go_wp2_with (first | (go_at_call 19; (with_reducible refine (laws_eqHoldS.calls k _ _ t159 _ _ t153 t169 _ ?side1 ?side2 ?side3 ?side4 A32.out).mono ?_); (case side1 => exact ca_ ((Kd.R_reads' HO161.out).2.2)); (case side2 => exact (Kd.R_reads' HO161.out).2.1); (case side3 => exact ca_ ((Kd.R_reads' HO155.out).2.2)); (case side4 => exact (Kd.R_reads' HO155.out).2.1); rintro e w33 ⟨rfl, hb⟩; have n0_ := Aside0.mk (Kd.R_below (ra_ HO152) hb); have n1_ := Aside0.mk (Kd.R_below (ra_ HO155) hb); have n2_ := Aside0.mk (Kd.R_below (ra_ HO158) hb); have n3_ := Aside0.mk (Kd.R_below (ra_ HO161) hb); have n4_ := Aside0.mk (Kd.R_below (ra_ HO165) hb); have n5_ := Aside0.mk (below_step bl_ hb); clear HO152; clear HO155; clear HO158; clear HO161; clear HO165; clear HB; have HO152 := n0_; have HO155 := n1_; have HO158 := n2_; have HO161 := n3_; have HO165 := n4_; have HB := n5_; clear n0_ n1_ n2_ n3_ n4_ n5_; (try clear hb); (try clear hb2); (try clear hk); (try clear hi)))
      go_meet
      case rel => exact ⟨_, (!t169), sp_, H', ⟨by first | omega | exact Nat.le_refl _⟩, ⟨by (with_reducible repeat (first | apply Kd.R_alloc | apply Kd.R_drewN | apply Kd.R_drew)); exact Kd.R_mono HO155.out (fun _ hk => hk.2.2.1)⟩, ⟨by (with_reducible repeat (first | apply Kd.R_alloc | apply Kd.R_drewN | apply Kd.R_drew)); exact Kd.R_mono HO161.out (fun _ hk => hk.2.1)⟩, ⟨bl_⟩⟩
    case rest =>
     clear HC16
     try clear c1
     try clear c2
     try clear p2
     try clear c3
     try clear c4
     try clear c4b0
     try clear c11
     try clear c14
     try clear c15
     try clear c17
     try clear c19
     try clear c20
     try clear c22
     try clear c23
     try clear c31
     try clear c31b0
     obtain ⟨kq, x46_15, rfl, HA, HJ15, HO_6, HO_8, HB⟩ := hcut
     cases kq with
     | zero => exact absurd HA.out (by simp [laws_FnExactLiveOnes.j0])
     | succ kj15 =>
      have H := HA.out
      clear HA
      simp only [laws_FnExactLiveOnes.j0] at H
      by_cases c34 : x46_15 = true
      ·subst c34
       have H1 : (some false) = some true := by rw [if_pos rfl] at H; exact H
       clear H
       have H := H1
       clear H1
       exact absurd H (by simp)
      ·replace c34 := Bool.eq_false_iff.mpr c34
       subst c34
       have H1 : ((laws_markHoldS.f kj15 t159 1).bind fun bt170 => ((laws_heldHoldS.f kj15 bt170.2 1).bind fun t172 => (if t172 < 0 then (some false) else (if t172 = bt170.1 then ((laws_toHoldS.f kj15 l0).bind fun t173 => ((impl_LiveOnes.f t173 a1).bind fun t176 => ((laws_eqHoldS.f kj15 t176 t153).bind fun t179 => (if t179 = true then ((laws_heldHoldS.f kj15 bt170.2 1).bind fun t180 => (if t180 < 0 then (some false) else (if t180 = bt170.1 then (some true) else (some false)))) else (some false))))) else (some false))))) = some true := by rw [if_neg (show ¬ (false = true) by decide)] at H; exact H
       clear H
       have H := H1
       clear H1
       replace H := Option.bind_eq_some_iff.mp H
       obtain ⟨⟨t170, t171⟩, A350, H⟩ := H
       replace H : ((laws_heldHoldS.f kj15 t171 1).bind fun t172 => (if t172 < 0 then (some false) else (if t172 = t170 then ((laws_toHoldS.f kj15 l0).bind fun t173 => ((impl_LiveOnes.f t173 a1).bind fun t176 => ((laws_eqHoldS.f kj15 t176 t153).bind fun t179 => (if t179 = true then ((laws_heldHoldS.f kj15 t171 1).bind fun t180 => (if t180 < 0 then (some false) else (if t180 = t170 then (some true) else (some false)))) else (some false))))) else (some false)))) = some true := H
       have A35 := Aside0.mk A350
       clear A350
       replace H := Option.bind_eq_some_iff.mp H
       obtain ⟨t172, A360, H⟩ := H
       replace H : (if t172 < 0 then (some false) else (if t172 = t170 then ((laws_toHoldS.f kj15 l0).bind fun t173 => ((impl_LiveOnes.f t173 a1).bind fun t176 => ((laws_eqHoldS.f kj15 t176 t153).bind fun t179 => (if t179 = true then ((laws_heldHoldS.f kj15 t171 1).bind fun t180 => (if t180 < 0 then (some false) else (if t180 = t170 then (some true) else (some false)))) else (some false))))) else (some false))) = some true := H
       have A36 := Aside0.mk A360
       clear A360
       by_cases c37 : t172 < 0
       ·rw [if_pos c37] at H
        have c37b0 : decide (t172 < 0) = true := decide_eq_true c37
        clear c37
        exact absurd H (by simp)
       ·rw [if_neg c37] at H
        have c37b0 : decide (t172 < 0) = false := decide_eq_false c37
        clear c37
        by_cases c38 : t172 = t170
        ·rw [if_pos c38] at H
         have c38b0 : (t172 == t170) = true := beq_iff_eq.mpr c38
         have c38b1 : (t172 != t170) = false := bne_eq_false_iff_eq.mpr c38
         clear c38
         replace H := Option.bind_eq_some_iff.mp H
         obtain ⟨t173, A390, H⟩ := H
         replace H : ((impl_LiveOnes.f t173 a1).bind fun t176 => ((laws_eqHoldS.f kj15 t176 t153).bind fun t179 => (if t179 = true then ((laws_heldHoldS.f kj15 t171 1).bind fun t180 => (if t180 < 0 then (some false) else (if t180 = t170 then (some true) else (some false)))) else (some false)))) = some true := H
         have A39 := Aside0.mk A390
         clear A390
         replace H := Option.bind_eq_some_iff.mp H
         obtain ⟨t176, A400, H⟩ := H
         replace H : ((laws_eqHoldS.f kj15 t176 t153).bind fun t179 => (if t179 = true then ((laws_heldHoldS.f kj15 t171 1).bind fun t180 => (if t180 < 0 then (some false) else (if t180 = t170 then (some true) else (some false)))) else (some false))) = some true := H
         have A40 := Aside0.mk A400
         clear A400
         replace H := Option.bind_eq_some_iff.mp H
         obtain ⟨t179, A410, H⟩ := H
         replace H : (if t179 = true then ((laws_heldHoldS.f kj15 t171 1).bind fun t180 => (if t180 < 0 then (some false) else (if t180 = t170 then (some true) else (some false)))) else (some false)) = some true := H
         have A41 := Aside0.mk A410
         clear A410
         by_cases c42 : t179 = true
         ·subst c42
          have H1 : ((laws_heldHoldS.f kj15 t171 1).bind fun t180 => (if t180 < 0 then (some false) else (if t180 = t170 then (some true) else (some false)))) = some true := by rw [if_pos rfl] at H; exact H
          clear H
          have H := H1
          clear H1
          replace H := Option.bind_eq_some_iff.mp H
          obtain ⟨t180, A430, H⟩ := H
          replace H : (if t180 < 0 then (some false) else (if t180 = t170 then (some true) else (some false))) = some true := H
          have A43 := Aside0.mk A430
          clear A430
          by_cases c44 : t180 < 0
          ·rw [if_pos c44] at H
           have c44b0 : decide (t180 < 0) = true := decide_eq_true c44
           clear c44
           exact absurd H (by simp)
          ·rw [if_neg c44] at H
           have c44b0 : decide (t180 < 0) = false := decide_eq_false c44
           clear c44
           by_cases c45 : t180 = t170
           ·rw [if_pos c45] at H
            have c45b0 : (t180 == t170) = true := beq_iff_eq.mpr c45
            have c45b1 : (t180 != t170) = false := bne_eq_false_iff_eq.mpr c45
            clear c45
            clear H
            go_wp2_with (first | ((with_reducible refine gate_callee (f := 20) rfl ?_); refine goesL_ (some 49) rfl rfl Try.func20 (by kernel_rfl) rfl #[.slice Ao24 t159.length co24, .int .i64 1] rfl gl_ ?_; (with_reducible refine (laws_markHoldS.calls kj15 (fun k_ => some k_ = (.slice Ao24 t159.length co24 : Value).ownBlock) (.slice Ao24 t159.length co24) t159 1 t170 t171 w _ ?side1 ?side2 A35.out).mono ?_); (case side1 => repeat (first | (with_reducible first | exact HB.out | apply below_alloc | apply pw_below_drewN | apply below_drew1) | exact HB.out)); (case side2 => exact Kd.R_tight rfl HO_8.out); rintro e w46 ⟨rfl, hy0, hb, hkp⟩; refine ⟨_, rfl, ?_⟩; have n0_ := Aside0.mk (Kd.R_mono (ok' := fun k_ => some k_ ≠ (.slice Ao24 t159.length co24 : Value).ownBlock) (Kd.R_keptB (HO_6.out) hkp (fun k_ hk_ hs_ => (hk_) hs_)) (fun k_ hk_ => hk_.1)); have n1_ := Aside0.mk (Kd.R_reok rfl hy0 (fun k_ e_ => HO_8.out.1 k_ e_)); have n2_ := Aside0.mk (hb); clear HO_6; clear HO_8; clear HB; have HO_6 := n0_; have HO_8 := n1_; have HB := n2_; clear n0_ n1_ n2_; (try clear hb); (try clear hkp); (try clear hy0)) | ((with_reducible refine gate_callee (f := 21) rfl ?_); refine goesL_ (some 52) rfl rfl Try.func21 (by kernel_rfl) rfl #[.slice Ao24 t171.length co24, .int .i64 1] rfl (by (try simp only [List.map_toArray, List.map_cons, List.map_nil]); first | done | (rw [show t171.length = t159.length from (Kd.R_reads' HO_8.out).1.symm] <;> rfl) | rfl | (simp only [List.length_drop, List.length_take]; rfl)) ?_; (with_reducible refine (laws_heldHoldS.calls kj15 _ _ t171 1 t172 _ ?side1 ?side2 A36.out).mono ?_); (case side1 => exact ca_ ((Kd.R_reads' HO_8.out).2.2)); (case side2 => rw [show t171.length = t159.length from (Kd.R_reads' HO_8.out).1.symm]; exact (Kd.R_reads' HO_8.out).2.1); rintro e w47 ⟨rfl, hb⟩; refine ⟨_, rfl, ?_⟩; have n0_ := Aside0.mk (Kd.R_below (ra_ HO_6) hb); have n1_ := Aside0.mk (Kd.R_below (ra_ HO_8) hb); have n2_ := Aside0.mk (below_step bl_ hb); clear HO_6; clear HO_8; clear HB; have HO_6 := n0_; have HO_8 := n1_; have HB := n2_; clear n0_ n1_ n2_; (try clear hb); (try clear hb2); (try clear hk); (try clear hi)) | ((with_reducible refine gate_callee (f := 17) rfl ?_); refine goesL_ (some 59) rfl rfl Try.func17 (by kernel_rfl) rfl #[.slice A0 l0.length c0] rfl gl_ ?_; (with_reducible refine (laws_toHoldS.calls kj15 _ _ l0 t173 _ ?side1 ?side2 A39.out).mono ?_); (case side1 => exact ca_ (Kd.C_below HR0.out HB.out)); (case side2 => exact HC0.out); rintro e w48 ⟨v174, rfl, ho0, hb⟩; refine ⟨_, rfl, ?_⟩; have n0_ := Aside0.mk (Kd.R_elder' (ra_ HO_6) (Kd.R_base ho0) hb); have n1_ := Aside0.mk (Kd.R_elder' (ra_ HO_8) (Kd.R_base ho0) hb); have n2_ := Aside0.mk (Kd.R_lower (Kd.R_new' (Kd.R_new' ho0 (Kd.R_lt (ra_ HO_6))) (Kd.R_lt (ra_ HO_8))) (below_size bl_)); have n3_ := Aside0.mk (below_step bl_ hb); clear HO_6; clear HO_8; clear HB; have HO_6 := n0_; have HO_8 := n1_; have HO175 := n2_; have HB := n3_; clear n0_ n1_ n2_ n3_; (try clear hb); (try clear hb2); (try clear hk); (try clear hi); (try clear ho0); obtain ⟨Ao49, co49, eo49⟩ := Kd.R_slice HO175.out; subst eo49) | ((with_reducible refine gate_callee (f := 23) rfl ?_); refine goesL_ (some 61) rfl rfl Try.func23 (by kernel_rfl) rfl #[.slice Ao49 t173.length co49, .int .i64 a1] rfl gl_ ?_; (with_reducible refine (impl_LiveOnes.calls _ _ t173 a1 t176 _ ?side1 ?side2 A40.out).mono ?_); (case side1 => exact ca_ ((Kd.R_reads' HO175.out).2.2)); (case side2 => exact (Kd.R_reads' HO175.out).2.1); rintro e w50 ⟨v177, rfl, ho0, hb⟩; refine ⟨_, rfl, ?_⟩; have n0_ := Aside0.mk (Kd.R_elder' (ra_ HO_6) (Kd.R_base ho0) hb); have n1_ := Aside0.mk (Kd.R_elder' (ra_ HO_8) (Kd.R_base ho0) hb); have n2_ := Aside0.mk (Kd.R_elder' (ra_ HO175) (Kd.R_base ho0) hb); have n3_ := Aside0.mk (Kd.R_lower (Kd.R_new' (Kd.R_new' (Kd.R_new' ho0 (Kd.R_lt (ra_ HO_6))) (Kd.R_lt (ra_ HO_8))) (Kd.R_lt (ra_ HO175))) (below_size bl_)); have n4_ := Aside0.mk (below_step bl_ hb); clear HO_6; clear HO_8; clear HO175; clear HB; have HO_6 := n0_; have HO_8 := n1_; have HO175 := n2_; have HO178 := n3_; have HB := n4_; clear n0_ n1_ n2_ n3_ n4_; (try clear hb); (try clear hb2); (try clear hk); (try clear hi); (try clear ho0); obtain ⟨Ao51, co51, eo51⟩ := Kd.R_slice HO178.out; subst eo51) | ((with_reducible refine gate_callee (f := 19) rfl ?_); refine goesL_ (some 64) rfl rfl Try.func19 (by kernel_rfl) rfl #[.slice Ao51 t176.length co51, .slice Ao25 t153.length co25] rfl gl_ ?_; (with_reducible refine (laws_eqHoldS.calls kj15 _ _ t176 _ _ t153 true _ ?side1 ?side2 ?side3 ?side4 A41.out).mono ?_); (case side1 => exact ca_ ((Kd.R_reads' HO178.out).2.2)); (case side2 => exact (Kd.R_reads' HO178.out).2.1); (case side3 => exact ca_ ((Kd.R_reads' HO_6.out).2.2)); (case side4 => exact (Kd.R_reads' HO_6.out).2.1); rintro e w52 ⟨rfl, hb⟩; refine ⟨_, rfl, ?_⟩; have n0_ := Aside0.mk (Kd.R_below (ra_ HO_6) hb); have n1_ := Aside0.mk (Kd.R_below (ra_ HO_8) hb); have n2_ := Aside0.mk (Kd.R_below (ra_ HO175) hb); have n3_ := Aside0.mk (Kd.R_below (ra_ HO178) hb); have n4_ := Aside0.mk (below_step bl_ hb); clear HO_6; clear HO_8; clear HO175; clear HO178; clear HB; have HO_6 := n0_; have HO_8 := n1_; have HO175 := n2_; have HO178 := n3_; have HB := n4_; clear n0_ n1_ n2_ n3_ n4_; (try clear hb); (try clear hb2); (try clear hk); (try clear hi)) | ((with_reducible refine gate_callee (f := 21) rfl ?_); refine goesL_ (some 68) rfl rfl Try.func21 (by kernel_rfl) rfl #[.slice Ao24 t171.length co24, .int .i64 1] rfl (by (try simp only [List.map_toArray, List.map_cons, List.map_nil]); first | done | (rw [show t171.length = t159.length from (Kd.R_reads' HO_8.out).1.symm] <;> rfl) | rfl | (simp only [List.length_drop, List.length_take]; rfl)) ?_; (with_reducible refine (laws_heldHoldS.calls kj15 _ _ t171 1 t180 _ ?side1 ?side2 A43.out).mono ?_); (case side1 => exact ca_ ((Kd.R_reads' HO_8.out).2.2)); (case side2 => rw [show t171.length = t159.length from (Kd.R_reads' HO_8.out).1.symm]; exact (Kd.R_reads' HO_8.out).2.1); rintro e w53 ⟨rfl, hb⟩; refine ⟨_, rfl, ?_⟩; have n0_ := Aside0.mk (Kd.R_below (ra_ HO_6) hb); have n1_ := Aside0.mk (Kd.R_below (ra_ HO_8) hb); have n2_ := Aside0.mk (Kd.R_below (ra_ HO175) hb); have n3_ := Aside0.mk (Kd.R_below (ra_ HO178) hb); have n4_ := Aside0.mk (below_step bl_ hb); clear HO_6; clear HO_8; clear HO175; clear HO178; clear HB; have HO_6 := n0_; have HO_8 := n1_; have HO175 := n2_; have HO178 := n3_; have HB := n4_; clear n0_ n1_ n2_ n3_ n4_; (try clear hb); (try clear hb2); (try clear hk); (try clear hi)))
            go_ret
            exact ⟨sq_, bl_⟩
           ·rw [if_neg c45] at H
            have c45b0 : (t180 == t170) = false := beq_eq_false_iff_ne.mpr c45
            have c45b1 : (t180 != t170) = true := bne_iff_ne.mpr c45
            exact absurd H (by simp)
         ·replace c42 := Bool.eq_false_iff.mpr c42
          subst c42
          have H1 : (some false) = some true := by rw [if_neg (show ¬ (false = true) by decide)] at H; exact H
          clear H
          have H := H1
          clear H1
          exact absurd H (by simp)
        ·rw [if_neg c38] at H
         have c38b0 : (t172 == t170) = false := beq_eq_false_iff_ne.mpr c38
         have c38b1 : (t172 != t170) = true := bne_iff_ne.mpr c38
         exact absurd H (by simp)
   ·replace c14 := Bool.eq_false_iff.mpr c14
    subst c14
    have H1 : (some false) = some true := by rw [if_neg (show ¬ (false = true) by decide)] at H; exact H
    clear H
    have H := H1
    clear H1
    exact absurd H (by simp)
  ·replace c11 := Bool.eq_false_iff.mpr c11
   subst c11
   have H1 : (some false) = some true := by rw [if_neg (show ¬ (false = true) by decide)] at H; exact H
   clear H
   have H := H1
   clear H1
   exact absurd H (by simp)

def ok89 (x : S89) : Prop := (x.f0.size ≤ maxLen) ∧ ((Lit.int .i64 x.f1).wf = true) ∧ ((Lit.int .i64 x.f2).wf = true)
/-- THE ONE PURE STATEMENT of laws_FnExactLiveOnes. -/
def laws_FnExactLiveOnes.Pure : Prop := ∀ (l0 : List (S89)) (a1 : Int), (l0.length ≤ maxLen ∧ ∀ y0 ∈ l0, ok89 y0) → ((Lit.int .i64 a1).wf = true) → ∃ k, laws_FnExactLiveOnes.f k l0 a1 = some true

end Go.Proofs.Ytepjnalkpfnmcaa.QFnExactLiveOnes
