-- by my own printer (myprint.py, over the kit's print.py)
import Derived.Test.YtbjpfknmkpnhjaaDoorProg
import Derived.Below
import Derived.Deep.Draws
import Derived.Deep.AppendLies
import Derived.Maps.AppendAt
import Derived.OwnWalk
import Derived.Laws.BytesArg
import Derived.Laws.MakeOwn
import Derived.Laws.OwnMore
import Derived.Deep.OwnRows
import Derived.Tactics
import Derived.Lib.ConvBytes
import Derived.Laws.Slices
import Derived.WalkKit
import Derived.KernelRfl
import Derived.RowKit3
import Derived.Deep.LoopGhost
import Derived.Deep.QuietTactic
import Derived.BigQuiet
import Derived.WideLaws
import Derived.Deep.DeepCutAuto
import Derived.Deep.CutBlock
import Derived.Deep.RegionHeld3
import Derived.Laws.Rows
import Derived.Lib.AppendStr
import Derived.ArgAppend
import Derived.Laws.IdiomCopy
import Derived.OrdersHeld
import Derived.Laws.BitsLemmas
import Derived.RowKit
import Derived.Lib.LaidTab
import Derived.Test.YtbjpfknmkpnhjaaDoorShelfStr
import Derived.Lib.Atoi
import Derived.Lib.ConvBytes
import Derived.Test.YtbjpfknmkpnhjaaDoorShelfAtoi
import Derived.Test.YtbjpfknmkpnhjaaDoorVFnExactReplyCodeWGuardInvWordsMore
namespace Go.Proofs.YtbjpfknmkpnhjaaDoor.QFnExactReplyCode
open Go.RowKit Go.Proofs.YtbjpfknmkpnhjaaDoorW.PrintWords Go.Proofs.YtbjpfknmkpnhjaaDoorW.PrintLast Go.Proofs.YtbjpfknmkpnhjaaDoorW.PrintMore
attribute [local go_sem] max2_int min2_int max_two min_two max_three min_three max_four min_four   -- for this text's walks alone
set_option linter.unusedVariables false
set_option linter.unusedSimpArgs false
def errW : Option Int → Value
 | none => .nilIface
 | some c => .iface 0 (.int .i64 c)
theorem errW_none : errW none = .nilIface := rfl
theorem errW_some (c : Int) : errW (some c) = .iface 0 (.int .i64 c) := rfl
theorem info3 : (Tryd.prog.info? 3).map (fun i => (i.zero, i.size, i.bytes)) = some (some (.int .i64 0), 1, 8) := by kernel_rfl
theorem info5 : (Tryd.prog.info? 5).map (fun i => (i.zero, i.size, i.bytes)) = some (some (.int .u8 0), 1, 1) := by kernel_rfl
theorem info67 : (Tryd.prog.info? 67).map (fun i => (i.zero, i.size, i.bytes)) = some (some (.agg #[(.int .i64 0), (.string ⟨#[]⟩)]), 2, 24) := by kernel_rfl
-- the values' own types
/-! #### struct type 67 -/
structure S67 where
 f0 : Int
 f1 : ByteArray
def z67 : S67 := ⟨(0 : Int), (⟨#[]⟩ : ByteArray)⟩
def k67 : Kd S67 := Kd.iso (Kd.pair (Kd.int .i64) Kd.string) (fun x : S67 => (x.f0, x.f1))
theorem k67_open {w : World} {x : S67} {cs : List Value} (h : k67.K w x cs) : cs = [.int .i64 x.f0, .string x.f1] := by
 obtain ⟨_, _, rfl, rfl, rfl⟩ := h
 exact rfl
theorem k67_mkM (w : World) (base : Nat) (ok : Nat → Prop) (x : S67)  : k67.M w base ok x [.int .i64 x.f0, .string x.f1] := ⟨[.int .i64 x.f0], [.string x.f1], rfl, rfl, rfl⟩
def rd_T67 (xs : List S67) (i : Int) : S67 := xs.getD i.toNat z67
theorem at_T67 {w : World} {A : Option Addr} {n : Nat} {xs : List S67} (h : Kd.C k67 w A n xs) (i : Int) (h0 : 0 ≤ i) (h1 : i < n) : ∃ ad , A = some ad ∧ w.cell? (ad.add (i.toNat * 2)) = some (.int .i64 (rd_T67 xs i).f0) ∧ w.cell? ⟨(ad.add (i.toNat * 2)).block, (ad.add (i.toNat * 2)).off + 1, none⟩ = some (.string (rd_T67 xs i).f1) := by
 obtain ⟨ad, c, e, _, hK, hc0⟩ := Kd.C_get h z67 i h0 h1
 have hc : ∀ j u, c[j]? = some u → w.cell? (ad.add (i.toNat * 2 + j)) = some u := hc0
 obtain rfl := k67_open hK
 exact ⟨ad, e, hc 0 _ rfl, by rw [← add_field _ _ 1 (by omega)]; exact hc 1 _ rfl⟩
/-! #### struct type 144 -/
structure S144 where
 f0 : Int
 f1 : Int
 f2 : Int
def z144 : S144 := ⟨(0 : Int), (0 : Int), (0 : Int)⟩
def k144 : Kd S144 := Kd.iso (Kd.pair (Kd.int .i64) (Kd.pair (Kd.int .i64) (Kd.int .i64))) (fun x : S144 => (x.f0, x.f1, x.f2))
theorem k144_open {w : World} {x : S144} {cs : List Value} (h : k144.K w x cs) : cs = [.int .i64 x.f0, .int .i64 x.f1, .int .i64 x.f2] := by
 obtain ⟨_, _, rfl, rfl, ⟨_, _, rfl, rfl, rfl⟩⟩ := h
 exact rfl
theorem k144_mkM (w : World) (base : Nat) (ok : Nat → Prop) (x : S144)  : k144.M w base ok x [.int .i64 x.f0, .int .i64 x.f1, .int .i64 x.f2] := ⟨[.int .i64 x.f0], [.int .i64 x.f1, .int .i64 x.f2], rfl, rfl, ⟨[.int .i64 x.f1], [.int .i64 x.f2], rfl, rfl, rfl⟩⟩
def rd_T144 (xs : List S144) (i : Int) : S144 := xs.getD i.toNat z144
theorem at_T144 {w : World} {A : Option Addr} {n : Nat} {xs : List S144} (h : Kd.C k144 w A n xs) (i : Int) (h0 : 0 ≤ i) (h1 : i < n) : ∃ ad , A = some ad ∧ w.cell? (ad.add (i.toNat * 3)) = some (.int .i64 (rd_T144 xs i).f0) ∧ w.cell? ⟨(ad.add (i.toNat * 3)).block, (ad.add (i.toNat * 3)).off + 1, none⟩ = some (.int .i64 (rd_T144 xs i).f1) ∧ w.cell? ⟨(ad.add (i.toNat * 3)).block, (ad.add (i.toNat * 3)).off + 2, none⟩ = some (.int .i64 (rd_T144 xs i).f2) := by
 obtain ⟨ad, c, e, _, hK, hc0⟩ := Kd.C_get h z144 i h0 h1
 have hc : ∀ j u, c[j]? = some u → w.cell? (ad.add (i.toNat * 3 + j)) = some u := hc0
 obtain rfl := k144_open hK
 exact ⟨ad, e, hc 0 _ rfl, by rw [← add_field _ _ 1 (by omega)]; exact hc 1 _ rfl, by rw [← add_field _ _ 2 (by omega)]; exact hc 2 _ rfl⟩
def rd_L5 (xs : List (List Int)) (i : Int) : (List Int) := xs.getD i.toNat ([] : List Int)
theorem my_isEmpty (l : List UInt8) : l.isEmpty = !(l != []) := by cases l <;> simp
theorem my_w256 (x : Int) : wrap64 (x % 256) = x % 256 := by unfold wrap64; omega
theorem my_less (a b : List UInt8) : (Op.bytesLess a b || a == b) = !(Op.bytesLess b a) := by
 induction a generalizing b with
 | nil => cases b <;> simp [Op.bytesLess]
 | cons x a ih =>
  cases b with
  | nil => simp [Op.bytesLess]
  | cons y b =>
   have := ih b
   simp only [Op.bytesLess]
   by_cases h1 : x < y
   ·have h2 : ¬ y < x := UInt8.not_lt.2 (UInt8.le_of_lt h1)
    have h3 : ¬ x = y := fun e => UInt8.lt_irrefl _ (e ▸ h1)
    have h4 : ¬ y = x := fun e => h3 e.symm
    simp [h1, h2, h3, h4]
   ·by_cases h2 : y < x
    ·have h3 : ¬ x = y := fun e => UInt8.lt_irrefl _ (e ▸ h2)
     have h4 : ¬ y = x := fun e => h3 e.symm
     simp [h1, h2, h3, h4]
    ·have h3 : x = y := UInt8.le_antisymm (UInt8.not_lt.1 h2) (UInt8.not_lt.1 h1)
     subst h3
     simpa [h1] using this
theorem my_geq (t : TypeId) (a b : ByteArray) : binOp .geq t (.string a) (.string b) = pure (.bool !(Op.bytesLess a.toList b.toList)) := by simp [binOp, Op.stringOp]
theorem my_leq (t : TypeId) (a b : ByteArray) : binOp .leq t (.string a) (.string b) = pure (.bool !(Op.bytesLess b.toList a.toList)) := by rw [← my_less]; simp [binOp, Op.stringOp]
theorem my_gtr (t : TypeId) (a b : ByteArray) : binOp .gtr t (.string a) (.string b) = pure (.bool (Op.bytesLess b.toList a.toList)) := by
 have h := my_less a.toList b.toList
 have e : binOp .gtr t (.string a) (.string b) = pure (.bool !(Op.bytesLess a.toList b.toList || a.toList == b.toList)) := by simp [binOp, Op.stringOp]
 rw [e, h, Bool.not_not]
theorem bl_ {n : Nat} {w W : World} (h : Below n w W := by repeat (first | (with_reducible first | exact HB.out | apply below_alloc | apply pw_below_drewN | apply below_drew1 | refine below_set ?_ (Aside0.out (by assumption))) | exact HB.out)) : Below n w W := h
theorem sp_ {α : Type} {a b : α} (h : a = b := by first | rfl | (simp; done) | (simp [*]; done) | (simp [my_isEmpty, my_w256, Go.Proofs.YtbjpfknmkpnhjaaDoorW.PrintLast.i64_w, Go.Proofs.YtbjpfknmkpnhjaaDoorW.PrintLast.i32_w, Go.IntKind.wrap_u8, Go.IntKind.wrap_u32]; done)) : a = b := h
theorem bk_ {w W : World} {g : Nat} {o : Obj} (b : Aside0 (w.heap[g]? = some o)) (h : w.heap[g]? = some o → W.heap[g]? = some o := by intro h_; (with_reducible repeat (first | refine blk_drewN ?_ _ | refine blk_drew ?_ | refine blk_alloc ?_ _)); exact h_) : W.heap[g]? = some o := h b.out
theorem gl_ {P : Prop} (h : P := by (try simp only [List.map_toArray, List.map_cons, List.map_nil]); first | done | rfl | (simp only [List.length_drop, List.length_take]; rfl)) : P := h
theorem ca_ {P Q : Prop} (a : P) (h : P → Q := by intro h_; repeat (first | exact h_ | (with_reducible refine Kd.C_alloc ?_ _) | (with_reducible refine Kd.C_drewN ?_ _) | (with_reducible refine Kd.C_drew ?_))) : Q := h a
theorem ra_ {P Q : Prop} (a : Aside0 P) (h : P → Q := by intro h_; (with_reducible repeat (first | apply Kd.R_alloc | apply Kd.R_drewN | apply Kd.R_drew)); exact h_) : Q := h a.out
theorem cz_ {w : World} {g : Nat} {t : TypeId} {cs : Array Value} (b : Aside0 (w.heap[g]? = some (.cells cs t (0, 0)))) (i : Nat) (v : Value) (h : cs[i]? = some v := by rfl) : w.cell? ⟨g, i, none⟩ = some v := (blk_cell b.out i).trans h
theorem fz_ {w : World} {g : Nat} {t : TypeId} {cs : Array Value} (b : Aside0 (w.heap[g]? = some (.cells cs t (0, 0)))) (i : Nat) : w.frozen? ⟨g, i, none⟩ = false := blk_frozen b.out i
theorem od_ {p : Prop} [Decidable p] (h : decide p = true := by first | (with_reducible assumption) | assumption) : p := of_decide_eq_true h
theorem kc_ {w W : World} (b : Aside0 (Below w.heap.size w W)) {a : Addr} {v : Value} (h : w.cell? a = some v) : W.cell? a = some v := (b.out.cell (World.block_lt_of_cell? w _ h)).trans h
theorem q_ : (∀ {α : Type} (l : List α) (i : Nat) (a : α), l.toArray.setIfInBounds i a = (l.set i a).toArray) ∧ (∀ {α : Type} (x : α) (l : List α) (a : α), (x :: l).set 0 a = a :: l) ∧ (∀ {α : Type} (x : α) (l : List α) (n : Nat) (a : α), (x :: l).set (n + 1) a = x :: l.set n a) ∧ (∀ n : Int, IntKind.i64.wrap n = wrap64 n) ∧ (∀ n : Int, IntKind.i32.wrap n = Go.RowKit.wrap32 n) := ⟨fun l i a => by simp, fun _ _ _ => rfl, fun _ _ _ _ => rfl, i64_w, i32_w⟩
theorem pl_ {P : Program} {ops : Array Oper} {Q : Exit → Act → World → Prop} {md : Region.Mode} {S : World → Prop} {ds : List Nat} {T} (HT : Aside0 (rtab md ops = T)) (i : Nat) (N : Tmp) (l' : Array Bool) {oi : Oper} {v : Value} {fuel : Nat} {l : Array Bool} {a : Act} {w : World} {a' : Act} (h : wpAnyLast P md ops Q S ds fuel l' a' w)
  (hi : ops[i]? = some oi := by rfl) (hN : oi.dst = some N := by rfl) (hc : anyT T l.toList l'.toList i = true := by kernel_rfl) (hQ : ∀ c a w, Q (.panic c) (a.put oi.dst v) w → Q (.panic c) a w := by exact fun _ _ _ h => h) (hwt : Region.wanted oi (yielded ops a.tmps) = true := by rfl)
  (hy : ∀ w, (execOp a.eval oi).run P w = .ok (.value v) w := by intro w'; go_simp; with_reducible rfl) (ha : a.put (some N) v = a' := by simp only [Act.put, q_]; rfl) : wpAnyLast P md ops Q S ds (fuel + 1) l a w := pure_ l' hi hN (any_of HT.out hc) hQ (Or.inl ⟨hwt, hy⟩) ha h
theorem gw_ {w W : World} {g : Nat} (hg : g = W.heap.size) (h : Below w.heap.size w W := by repeat (first | (with_reducible first | exact HB.out | apply below_alloc | apply pw_below_drewN | apply below_drew1 | refine below_set ?_ (Aside0.out (by assumption))) | exact HB.out)) : Aside0 (w.heap.size ≤ g) := ⟨by rw [hg]; exact below_size h⟩
theorem sq_ {α : Type} {a b : α} (h : a = b := by first | rfl | (simp [errW_none, errW_some] <;> rfl) | (simp [*, errW_none, errW_some] <;> rfl)) : a = b := h
abbrev b0 : Bool := false
abbrev b1 : Bool := true
theorem ob_ {α β : Type} {x : Option α} {f : α → Option β} {r : β} (h : x.bind f = some r) : ∃ t, Aside0 (x = some t) ∧ f t = some r := by
  obtain ⟨t, a, b⟩ := Option.bind_eq_some_iff.mp h
  exact ⟨t, ⟨a⟩, b⟩
theorem ip_ {α : Type} {a b : Option α} {r : α} (h : (if true = true then a else b) = some r) : a = some r := by rwa [if_pos rfl] at h
theorem in_ {α : Type} {a b : Option α} {r : α} (h : (if false = true then a else b) = some r) : b = some r := by rwa [if_neg (show ¬ (false = true) by decide)] at h
theorem be_ {P : Program} {ops : Array Oper} {Q : Exit → Act → World → Prop} {rest : List Oper} {o : Oper} {a : Act} {W : World} {N : Tmp} {cs : Array Value} {t : TypeId}
    (h : ∀ g, g = W.heap.size → ∀ w1, w1.heap[g]? = some (.cells cs t (0, 0)) → Below W.heap.size W w1 → wpList P ops Q rest (a.put o.dst (.pointer (some ⟨g, 0, none⟩))) w1) (hgd : o.guard = none := by rfl) (hd : o.dst = some N := by rfl)
    (hrun : (execOp a.eval o).run P W = .ok (.value (.pointer (some ⟨W.heap.size, 0, none⟩))) (W.alloc (.cells cs t (0, 0))) := by first | (go_simp; done) | (go_simp; rfl)) : wpList P ops Q (o :: rest) a W := box_event hgd hd hrun h
theorem bx2_ {w : World} {g : Nat} {t : TypeId} {v0 v1 : Value} (b : Aside0 (w.heap[g]? = some (.cells #[v0, v1] t (0, 0)))) : w.cell? ⟨g, 0, none⟩ = some v0 ∧ w.cell? ⟨g, 1, none⟩ = some v1 ∧ w.frozen? ⟨g, 0, none⟩ = false ∧ w.frozen? ⟨g, 1, none⟩ = false := ⟨blk_cell b.out 0, blk_cell b.out 1, blk_frozen b.out 0, blk_frozen b.out 1⟩
theorem bx3_ {w : World} {g : Nat} {t : TypeId} {v0 v1 v2 : Value} (b : Aside0 (w.heap[g]? = some (.cells #[v0, v1, v2] t (0, 0)))) : w.cell? ⟨g, 0, none⟩ = some v0 ∧ w.cell? ⟨g, 1, none⟩ = some v1 ∧ w.cell? ⟨g, 2, none⟩ = some v2 ∧ w.frozen? ⟨g, 0, none⟩ = false ∧ w.frozen? ⟨g, 1, none⟩ = false ∧ w.frozen? ⟨g, 2, none⟩ = false := ⟨blk_cell b.out 0, blk_cell b.out 1, blk_cell b.out 2, blk_frozen b.out 0, blk_frozen b.out 1, blk_frozen b.out 2⟩
theorem bp2_0_ {w : World} {g : Nat} {t : TypeId} {z0 z1 u : Value} (h : w.heap[g]? = some (.cells #[z0, z1] t (0, 0))) : (w.setCell ⟨g, 0, none⟩ u).heap[g]? = some (.cells #[u, z1] t (0, 0)) := blk_put h 0 u rfl
theorem bp2_1_ {w : World} {g : Nat} {t : TypeId} {z0 z1 u : Value} (h : w.heap[g]? = some (.cells #[z0, z1] t (0, 0))) : (w.setCell ⟨g, 1, none⟩ u).heap[g]? = some (.cells #[z0, u] t (0, 0)) := blk_put h 1 u rfl
theorem bp3_0_ {w : World} {g : Nat} {t : TypeId} {z0 z1 z2 u : Value} (h : w.heap[g]? = some (.cells #[z0, z1, z2] t (0, 0))) : (w.setCell ⟨g, 0, none⟩ u).heap[g]? = some (.cells #[u, z1, z2] t (0, 0)) := blk_put h 0 u rfl
theorem bp3_1_ {w : World} {g : Nat} {t : TypeId} {z0 z1 z2 u : Value} (h : w.heap[g]? = some (.cells #[z0, z1, z2] t (0, 0))) : (w.setCell ⟨g, 1, none⟩ u).heap[g]? = some (.cells #[z0, u, z2] t (0, 0)) := blk_put h 1 u rfl
theorem bp3_2_ {w : World} {g : Nat} {t : TypeId} {z0 z1 z2 u : Value} (h : w.heap[g]? = some (.cells #[z0, z1, z2] t (0, 0))) : (w.setCell ⟨g, 2, none⟩ u).heap[g]? = some (.cells #[z0, z1, u] t (0, 0)) := blk_put h 2 u rfl
theorem bq2_1_ {w : World} {g : Nat} {t : TypeId} {z0 z1 u0 : Value} (h : w.heap[g]? = some (.cells #[z0, z1] t (0, 0))) : (w.setCell ⟨g, 1, none⟩ u0).heap[g]? = some (.cells #[z0, u0] t (0, 0)) := by
  have h0 := bp2_1_ (u := u0) h
  exact h0
theorem bq2_1_0_ {w : World} {g : Nat} {t : TypeId} {z0 z1 u0 u1 : Value} (h : w.heap[g]? = some (.cells #[z0, z1] t (0, 0))) : ((w.setCell ⟨g, 0, none⟩ u1).setCell ⟨g, 1, none⟩ u0).heap[g]? = some (.cells #[u1, u0] t (0, 0)) := by
  have h0 := bp2_0_ (u := u1) h; have h1 := bp2_1_ (u := u0) h0
  exact h1
theorem bq3_2_1_0_ {w : World} {g : Nat} {t : TypeId} {z0 z1 z2 u0 u1 u2 : Value} (h : w.heap[g]? = some (.cells #[z0, z1, z2] t (0, 0))) : (((w.setCell ⟨g, 0, none⟩ u2).setCell ⟨g, 1, none⟩ u1).setCell ⟨g, 2, none⟩ u0).heap[g]? = some (.cells #[u2, u1, u0] t (0, 0)) := by
  have h0 := bp3_0_ (u := u2) h; have h1 := bp3_1_ (u := u1) h0; have h2 := bp3_2_ (u := u0) h1
  exact h2
end Go.Proofs.YtbjpfknmkpnhjaaDoor.QFnExactReplyCode
