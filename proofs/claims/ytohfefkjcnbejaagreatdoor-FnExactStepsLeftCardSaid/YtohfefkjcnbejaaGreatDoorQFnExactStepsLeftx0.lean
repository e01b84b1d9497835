-- by my own printer (myprint.py, over the kit's print.py)
import Derived.Test.YtohfefkjcnbejaaGreatDoorProg
import Derived.Below
import Derived.Deep.Draws
import Derived.Deep.AppendLies
import Derived.Maps.AppendAt
import Derived.OwnWalk
import Derived.Laws.BytesArg
import Derived.Laws.MakeOwn
import Derived.Laws.OwnMore
import Derived.Deep.OwnRows
import Derived.Tactics
import Derived.Lib.ConvBytes
import Derived.Laws.Slices
import Derived.WalkKit
import Derived.KernelRfl
import Derived.RowKit3
import Derived.Deep.LoopGhost
import Derived.Deep.QuietTactic
import Derived.BigQuiet
import Derived.WideLaws
import Derived.Deep.DeepCutAuto
import Derived.Deep.CutBlock
import Derived.Deep.RegionHeld3
import Derived.Laws.Rows
import Derived.Lib.AppendStr
import Derived.ArgAppend
import Derived.Laws.IdiomCopy
import Derived.OrdersHeld
import Derived.Laws.BitsLemmas
import Derived.RowKit
import Derived.Sort.EveryDepth
import Derived.Lib.SortBridge
import Derived.Test.YtohfefkjcnbejaaGreatDoorShelfSort
import Derived.Shelf.Abstract
import Derived.Lib.SliceRun
import Derived.Test.YtohfefkjcnbejaaGreatDoorShelfTrim
import Derived.Lib.Atoi
import Derived.Lib.ConvBytes
import Derived.Test.YtohfefkjcnbejaaGreatDoorShelfAtoi
import Derived.Test.YtohfefkjcnbejaaGreatDoorVFnExactStepsLeftWGuardInvWordsMore
namespace Go.Proofs.YtohfefkjcnbejaaGreatDoor.QFnExactStepsLeft
open Go.RowKit Go.Proofs.YtohfefkjcnbejaaGreatDoorW.PrintWords Go.Proofs.YtohfefkjcnbejaaGreatDoorW.PrintLast Go.Proofs.YtohfefkjcnbejaaGreatDoorW.PrintMore
attribute [local go_sem] max2_int min2_int max_two min_two max_three min_three max_four min_four   -- for this text's walks alone
set_option linter.unusedVariables false
set_option linter.unusedSimpArgs false
def errW : Option Int → Value
 | none => .nilIface
 | some c => .iface 0 (.int .i64 c)
theorem errW_none : errW none = .nilIface := rfl
theorem errW_some (c : Int) : errW (some c) = .iface 0 (.int .i64 c) := rfl
theorem info3 : (Tryz.prog.info? 3).map (fun i => (i.zero, i.size, i.bytes)) = some (some (.int .i64 0), 1, 8) := by kernel_rfl
theorem info5 : (Tryz.prog.info? 5).map (fun i => (i.zero, i.size, i.bytes)) = some (some (.int .u8 0), 1, 1) := by kernel_rfl
theorem info9 : (Tryz.prog.info? 9).map (fun i => (i.zero, i.size, i.bytes)) = some (some (.string ⟨#[]⟩), 1, 16) := by kernel_rfl
theorem info91 : (Tryz.prog.info? 91).map (fun i => (i.zero, i.size, i.bytes)) = some (some (.agg #[(.int .i64 0), (.string ⟨#[]⟩)]), 2, 24) := by kernel_rfl
-- the values' own types
/-! #### struct type 91 -/
structure S91 where
 f0 : Int
 f1 : ByteArray
def z91 : S91 := ⟨(0 : Int), (⟨#[]⟩ : ByteArray)⟩
def k91 : Kd S91 := Kd.iso (Kd.pair (Kd.int .i64) Kd.string) (fun x : S91 => (x.f0, x.f1))
theorem k91_open {w : World} {x : S91} {cs : List Value} (h : k91.K w x cs) : cs = [.int .i64 x.f0, .string x.f1] := by
 obtain ⟨_, _, rfl, rfl, rfl⟩ := h
 exact rfl
theorem k91_mkM (w : World) (base : Nat) (ok : Nat → Prop) (x : S91)  : k91.M w base ok x [.int .i64 x.f0, .string x.f1] := ⟨[.int .i64 x.f0], [.string x.f1], rfl, rfl, rfl⟩
def rd_T91 (xs : List S91) (i : Int) : S91 := xs.getD i.toNat z91
theorem at_T91 {w : World} {A : Option Addr} {n : Nat} {xs : List S91} (h : Kd.C k91 w A n xs) (i : Int) (h0 : 0 ≤ i) (h1 : i < n) : ∃ ad , A = some ad ∧ w.cell? (ad.add (i.toNat * 2)) = some (.int .i64 (rd_T91 xs i).f0) ∧ w.cell? ⟨(ad.add (i.toNat * 2)).block, (ad.add (i.toNat * 2)).off + 1, none⟩ = some (.string (rd_T91 xs i).f1) := by
 obtain ⟨ad, c, e, _, hK, hc0⟩ := Kd.C_get h z91 i h0 h1
 have hc : ∀ j u, c[j]? = some u → w.cell? (ad.add (i.toNat * 2 + j)) = some u := hc0
 obtain rfl := k91_open hK
 exact ⟨ad, e, hc 0 _ rfl, by rw [← add_field _ _ 1 (by omega)]; exact hc 1 _ rfl⟩
/-! #### struct type 115 -/
structure S115 where
 f0 : Int
 f1 : Int
 f2 : Int
def z115 : S115 := ⟨(0 : Int), (0 : Int), (0 : Int)⟩
def k115 : Kd S115 := Kd.iso (Kd.pair (Kd.int .i64) (Kd.pair (Kd.int .i64) (Kd.int .i64))) (fun x : S115 => (x.f0, x.f1, x.f2))
theorem k115_open {w : World} {x : S115} {cs : List Value} (h : k115.K w x cs) : cs = [.int .i64 x.f0, .int .i64 x.f1, .int .i64 x.f2] := by
 obtain ⟨_, _, rfl, rfl, ⟨_, _, rfl, rfl, rfl⟩⟩ := h
 exact rfl
theorem k115_mkM (w : World) (base : Nat) (ok : Nat → Prop) (x : S115)  : k115.M w base ok x [.int .i64 x.f0, .int .i64 x.f1, .int .i64 x.f2] := ⟨[.int .i64 x.f0], [.int .i64 x.f1, .int .i64 x.f2], rfl, rfl, ⟨[.int .i64 x.f1], [.int .i64 x.f2], rfl, rfl, rfl⟩⟩
def rd_T115 (xs : List S115) (i : Int) : S115 := xs.getD i.toNat z115
theorem at_T115 {w : World} {A : Option Addr} {n : Nat} {xs : List S115} (h : Kd.C k115 w A n xs) (i : Int) (h0 : 0 ≤ i) (h1 : i < n) : ∃ ad , A = some ad ∧ w.cell? (ad.add (i.toNat * 3)) = some (.int .i64 (rd_T115 xs i).f0) ∧ w.cell? ⟨(ad.add (i.toNat * 3)).block, (ad.add (i.toNat * 3)).off + 1, none⟩ = some (.int .i64 (rd_T115 xs i).f1) ∧ w.cell? ⟨(ad.add (i.toNat * 3)).block, (ad.add (i.toNat * 3)).off + 2, none⟩ = some (.int .i64 (rd_T115 xs i).f2) := by
 obtain ⟨ad, c, e, _, hK, hc0⟩ := Kd.C_get h z115 i h0 h1
 have hc : ∀ j u, c[j]? = some u → w.cell? (ad.add (i.toNat * 3 + j)) = some u := hc0
 obtain rfl := k115_open hK
 exact ⟨ad, e, hc 0 _ rfl, by rw [← add_field _ _ 1 (by omega)]; exact hc 1 _ rfl, by rw [← add_field _ _ 2 (by omega)]; exact hc 2 _ rfl⟩
def rd_L5 (xs : List (List Int)) (i : Int) : (List Int) := xs.getD i.toNat ([] : List Int)
/-! #### struct type 74 -/
structure S74 where
 f0 : ByteArray
 f1 : ByteArray
 f2 : ByteArray
 f3 : (List Int)
def z74 : S74 := ⟨(⟨#[]⟩ : ByteArray), (⟨#[]⟩ : ByteArray), (⟨#[]⟩ : ByteArray), ([] : List Int)⟩
def k74 : Kd S74 := Kd.iso (Kd.pair Kd.string (Kd.pair Kd.string (Kd.pair Kd.string (Kd.slice 3 (Kd.int .i64))))) (fun x : S74 => (x.f0, x.f1, x.f2, x.f3))
theorem k74_open {w : World} {x : S74} {cs : List Value} (h : k74.K w x cs) : ∃ A3 c3, cs = [.string x.f0, .string x.f1, .string x.f2, .slice A3 x.f3.length c3] ∧ x.f3.length ≤ c3 ∧ (Kd.int .i64).C w A3 x.f3.length x.f3 := by
 obtain ⟨_, _, rfl, rfl, ⟨_, _, rfl, rfl, ⟨_, _, rfl, rfl, ⟨A3, c3, rfl, l3, g3⟩⟩⟩⟩ := h
 exact ⟨A3, c3, rfl, l3, g3⟩
theorem k74_mk (w : World) (x : S74) {A3 : Option Addr} {c3 : Nat} (l3 : x.f3.length ≤ c3) (g3 : (Kd.int .i64).C w A3 x.f3.length x.f3) : k74.K w x [.string x.f0, .string x.f1, .string x.f2, .slice A3 x.f3.length c3] := ⟨[.string x.f0], [.string x.f1, .string x.f2, .slice A3 x.f3.length c3], rfl, rfl, ⟨[.string x.f1], [.string x.f2, .slice A3 x.f3.length c3], rfl, rfl, ⟨[.string x.f2], [.slice A3 x.f3.length c3], rfl, rfl, ⟨A3, c3, rfl, l3, g3⟩⟩⟩⟩
theorem k74_openF {W : World} {ok : Nat → Prop} {x : S74} {cs : List Value} (h : Kd.FK k74 W ok x cs) : ∃ A3 c3, cs = [.string x.f0, .string x.f1, .string x.f2, .slice A3 x.f3.length c3] ∧ x.f3.length ≤ c3 ∧ Kd.F (Kd.int .i64) W ok A3 x.f3.length x.f3 := by
 obtain ⟨A3, c3, rfl, l3, _⟩ := k74_open (Kd.FK_now h)
 exact ⟨A3, c3, rfl, l3, (fun W' hW => by obtain ⟨A3_, c3_, he, l3_, g3_⟩ := k74_open (h W' hW); injection (Option.some.inj (show some (Value.slice A3 x.f3.length c3) = some (Value.slice A3_ x.f3.length c3_) from congrArg (fun l => l[3]?) he)) with ha_ _ _; rw [ha_]; exact g3_)⟩
theorem k74_mkF (W : World) (ok : Nat → Prop) (x : S74) {A3 : Option Addr} {c3 : Nat} (l3 : x.f3.length ≤ c3) (g3 : Kd.F (Kd.int .i64) W ok A3 x.f3.length x.f3) : Kd.FK k74 W ok x [.string x.f0, .string x.f1, .string x.f2, .slice A3 x.f3.length c3] := fun W2 hW => k74_mk W2 x l3 (g3 W2 hW)
def rd_T74 (xs : List S74) (i : Int) : S74 := xs.getD i.toNat z74
theorem at_T74 {w : World} {A : Option Addr} {n : Nat} {xs : List S74} (h : Kd.C k74 w A n xs) (i : Int) (h0 : 0 ≤ i) (h1 : i < n) : ∃ ad A3 c3, A = some ad ∧ w.cell? (ad.add (i.toNat * 4)) = some (.string (rd_T74 xs i).f0) ∧ w.cell? ⟨(ad.add (i.toNat * 4)).block, (ad.add (i.toNat * 4)).off + 1, none⟩ = some (.string (rd_T74 xs i).f1) ∧ w.cell? ⟨(ad.add (i.toNat * 4)).block, (ad.add (i.toNat * 4)).off + 2, none⟩ = some (.string (rd_T74 xs i).f2) ∧ w.cell? ⟨(ad.add (i.toNat * 4)).block, (ad.add (i.toNat * 4)).off + 3, none⟩ = some (.slice A3 (rd_T74 xs i).f3.length c3) ∧ (rd_T74 xs i).f3.length ≤ c3 ∧ (Kd.int .i64).C w A3 (rd_T74 xs i).f3.length (rd_T74 xs i).f3 := by
 obtain ⟨ad, c, e, _, hK, hc0⟩ := Kd.C_get h z74 i h0 h1
 have hc : ∀ j u, c[j]? = some u → w.cell? (ad.add (i.toNat * 4 + j)) = some u := hc0
 obtain ⟨A3, c3, rfl, l3, g3⟩ := k74_open hK
 exact ⟨ad, A3, c3, e, hc 0 _ rfl, by rw [← add_field _ _ 1 (by omega)]; exact hc 1 _ rfl, by rw [← add_field _ _ 2 (by omega)]; exact hc 2 _ rfl, by rw [← add_field _ _ 3 (by omega)]; exact hc 3 _ rfl, l3, g3⟩
def rd_L7 (xs : List (List Int)) (i : Int) : (List Int) := xs.getD i.toNat ([] : List Int)
/-! #### struct type 48 -/
structure S48 where
 f0 : (List Int)
 f1 : Int
 f2 : (List Int)
 f3 : Int
 f4 : Int
 f5 : Int
 f6 : Int
 f7 : Int
 f8 : (List Int)
def z48 : S48 := ⟨([] : List Int), (0 : Int), ([] : List Int), (0 : Int), (0 : Int), (0 : Int), (0 : Int), (0 : Int), ([] : List Int)⟩
def k48 : Kd S48 := Kd.iso (Kd.pair (Kd.slice 5 (Kd.int .u8)) (Kd.pair (Kd.int .i64) (Kd.pair (Kd.slice 3 (Kd.int .i64)) (Kd.pair (Kd.int .i64) (Kd.pair (Kd.int .i64) (Kd.pair (Kd.int .i64) (Kd.pair (Kd.int .i64) (Kd.pair (Kd.int .i64) (Kd.slice 5 (Kd.int .u8)))))))))) (fun x : S48 => (x.f0, x.f1, x.f2, x.f3, x.f4, x.f5, x.f6, x.f7, x.f8))
theorem k48_open {w : World} {x : S48} {cs : List Value} (h : k48.K w x cs) : ∃ A0 c0 A2 c2 A8 c8, cs = [.slice A0 x.f0.length c0, .int .i64 x.f1, .slice A2 x.f2.length c2, .int .i64 x.f3, .int .i64 x.f4, .int .i64 x.f5, .int .i64 x.f6, .int .i64 x.f7, .slice A8 x.f8.length c8] ∧ x.f0.length ≤ c0 ∧ (Kd.int .u8).C w A0 x.f0.length x.f0 ∧ x.f2.length ≤ c2 ∧ (Kd.int .i64).C w A2 x.f2.length x.f2 ∧ x.f8.length ≤ c8 ∧ (Kd.int .u8).C w A8 x.f8.length x.f8 := by
 obtain ⟨_, _, rfl, ⟨A0, c0, rfl, l0, g0⟩, ⟨_, _, rfl, rfl, ⟨_, _, rfl, ⟨A2, c2, rfl, l2, g2⟩, ⟨_, _, rfl, rfl, ⟨_, _, rfl, rfl, ⟨_, _, rfl, rfl, ⟨_, _, rfl, rfl, ⟨_, _, rfl, rfl, ⟨A8, c8, rfl, l8, g8⟩⟩⟩⟩⟩⟩⟩⟩⟩ := h
 exact ⟨A0, c0, A2, c2, A8, c8, rfl, l0, g0, l2, g2, l8, g8⟩
def rd_T48 (xs : List S48) (i : Int) : S48 := xs.getD i.toNat z48
/-! #### struct type 51 -/
structure S51 where
 f0 : (List Int)
 f1 : Int
 f2 : (List Int)
 f3 : Int
 f4 : Int
 f5 : Int
 f6 : Int
 f7 : Int
 f8 : (List Int)
def z51 : S51 := ⟨([] : List Int), (0 : Int), ([] : List Int), (0 : Int), (0 : Int), (0 : Int), (0 : Int), (0 : Int), ([] : List Int)⟩
def k51 : Kd S51 := Kd.iso (Kd.pair (Kd.slice 5 (Kd.int .u8)) (Kd.pair (Kd.int .i64) (Kd.pair (Kd.slice 3 (Kd.int .i64)) (Kd.pair (Kd.int .i64) (Kd.pair (Kd.int .i64) (Kd.pair (Kd.int .i64) (Kd.pair (Kd.int .i64) (Kd.pair (Kd.int .i64) (Kd.slice 5 (Kd.int .u8)))))))))) (fun x : S51 => (x.f0, x.f1, x.f2, x.f3, x.f4, x.f5, x.f6, x.f7, x.f8))
def rd_T51 (xs : List S51) (i : Int) : S51 := xs.getD i.toNat z51
theorem my_isEmpty (l : List UInt8) : l.isEmpty = !(l != []) := by cases l <;> simp
theorem my_w256 (x : Int) : wrap64 (x % 256) = x % 256 := by unfold wrap64; omega
theorem my_less (a b : List UInt8) : (Op.bytesLess a b || a == b) = !(Op.bytesLess b a) := by
 induction a generalizing b with
 | nil => cases b <;> simp [Op.bytesLess]
 | cons x a ih =>
  cases b with
  | nil => simp [Op.bytesLess]
  | cons y b =>
   have := ih b
   simp only [Op.bytesLess]
   by_cases h1 : x < y
   ·have h2 : ¬ y < x := UInt8.not_lt.2 (UInt8.le_of_lt h1)
    have h3 : ¬ x = y := fun e => UInt8.lt_irrefl _ (e ▸ h1)
    have h4 : ¬ y = x := fun e => h3 e.symm
    simp [h1, h2, h3, h4]
   ·by_cases h2 : y < x
    ·have h3 : ¬ x = y := fun e => UInt8.lt_irrefl _ (e ▸ h2)
     have h4 : ¬ y = x := fun e => h3 e.symm
     simp [h1, h2, h3, h4]
    ·have h3 : x = y := UInt8.le_antisymm (UInt8.not_lt.1 h2) (UInt8.not_lt.1 h1)
     subst h3
     simpa [h1] using this
theorem my_geq (t : TypeId) (a b : ByteArray) : binOp .geq t (.string a) (.string b) = pure (.bool !(Op.bytesLess a.toList b.toList)) := by simp [binOp, Op.stringOp]
theorem my_leq (t : TypeId) (a b : ByteArray) : binOp .leq t (.string a) (.string b) = pure (.bool !(Op.bytesLess b.toList a.toList)) := by rw [← my_less]; simp [binOp, Op.stringOp]
theorem my_gtr (t : TypeId) (a b : ByteArray) : binOp .gtr t (.string a) (.string b) = pure (.bool (Op.bytesLess b.toList a.toList)) := by
 have h := my_less a.toList b.toList
 have e : binOp .gtr t (.string a) (.string b) = pure (.bool !(Op.bytesLess a.toList b.toList || a.toList == b.toList)) := by simp [binOp, Op.stringOp]
 rw [e, h, Bool.not_not]
theorem bl_ {n : Nat} {w W : World} (h : Below n w W := by repeat (first | (with_reducible first | exact HB.out | apply below_alloc | apply pw_below_drewN | apply below_drew1 | refine below_set ?_ (Aside0.out (by assumption))) | exact HB.out)) : Below n w W := h
theorem sp_ {α : Type} {a b : α} (h : a = b := by first | rfl | (simp; done) | (simp [*]; done) | (simp [my_isEmpty, my_w256, Go.Proofs.YtohfefkjcnbejaaGreatDoorW.PrintLast.i64_w, Go.Proofs.YtohfefkjcnbejaaGreatDoorW.PrintLast.i32_w, Go.IntKind.wrap_u8, Go.IntKind.wrap_u32]; done)) : a = b := h
theorem bk_ {w W : World} {g : Nat} {o : Obj} (b : Aside0 (w.heap[g]? = some o)) (h : w.heap[g]? = some o → W.heap[g]? = some o := by intro h_; (with_reducible repeat (first | refine blk_drewN ?_ _ | refine blk_drew ?_ | refine blk_alloc ?_ _)); exact h_) : W.heap[g]? = some o := h b.out
theorem gl_ {P : Prop} (h : P := by (try simp only [List.map_toArray, List.map_cons, List.map_nil]); first | done | rfl | (simp only [List.length_drop, List.length_take]; rfl)) : P := h
theorem ca_ {P Q : Prop} (a : P) (h : P → Q := by intro h_; repeat (first | exact h_ | (with_reducible refine Kd.C_alloc ?_ _) | (with_reducible refine Kd.C_drewN ?_ _) | (with_reducible refine Kd.C_drew ?_))) : Q := h a
theorem ra_ {P Q : Prop} (a : Aside0 P) (h : P → Q := by intro h_; (with_reducible repeat (first | apply Kd.R_alloc | apply Kd.R_drewN | apply Kd.R_drew)); exact h_) : Q := h a.out
theorem cz_ {w : World} {g : Nat} {t : TypeId} {cs : Array Value} (b : Aside0 (w.heap[g]? = some (.cells cs t (0, 0)))) (i : Nat) (v : Value) (h : cs[i]? = some v := by rfl) : w.cell? ⟨g, i, none⟩ = some v := (blk_cell b.out i).trans h
theorem fz_ {w : World} {g : Nat} {t : TypeId} {cs : Array Value} (b : Aside0 (w.heap[g]? = some (.cells cs t (0, 0)))) (i : Nat) : w.frozen? ⟨g, i, none⟩ = false := blk_frozen b.out i
theorem od_ {p : Prop} [Decidable p] (h : decide p = true := by first | (with_reducible assumption) | assumption) : p := of_decide_eq_true h
theorem kc_ {w W : World} (b : Aside0 (Below w.heap.size w W)) {a : Addr} {v : Value} (h : w.cell? a = some v) : W.cell? a = some v := (b.out.cell (World.block_lt_of_cell? w _ h)).trans h
theorem nl_ {w : World} {a : Addr} {v : Value} {b n g : Nat} (hx : w.cell? a = some v) (G : Aside0 (n ≤ g)) (h : a.block < w.heap.size → b < n := by intro this; first | rwa [add_block] at this | exact this) : b ≠ g := Nat.ne_of_lt (Nat.lt_of_lt_of_le (h (World.block_lt_of_cell? _ _ hx)) G.out)
theorem fr_ {P Q : Prop} (a : P) (h : P → Q := by intro h_; first | (rw [add_block]; exact h_) | (show (Addr.add _ _).block ≠ _; rw [add_block]; exact h_) | exact h_) : Q := h a
theorem cy_ {w : World} {g : Nat} {t : TypeId} {cs : Array Value} {v : Value} (b : Aside0 (w.heap[g]? = some (.cells cs t (0, 0)))) (i : Nat) (h : cs[i]? = some v := by rfl) : w.cell? ⟨g, i, none⟩ = some v := (blk_cell b.out i).trans h
theorem q_ : (∀ {α : Type} (l : List α) (i : Nat) (a : α), l.toArray.setIfInBounds i a = (l.set i a).toArray) ∧ (∀ {α : Type} (x : α) (l : List α) (a : α), (x :: l).set 0 a = a :: l) ∧ (∀ {α : Type} (x : α) (l : List α) (n : Nat) (a : α), (x :: l).set (n + 1) a = x :: l.set n a) ∧ (∀ n : Int, IntKind.i64.wrap n = wrap64 n) ∧ (∀ n : Int, IntKind.i32.wrap n = Go.RowKit.wrap32 n) := ⟨fun l i a => by simp, fun _ _ _ => rfl, fun _ _ _ _ => rfl, i64_w, i32_w⟩
theorem pl_ {P : Program} {ops : Array Oper} {Q : Exit → Act → World → Prop} {md : Region.Mode} {S : World → Prop} {ds : List Nat} {T} (HT : Aside0 (rtab md ops = T)) (i : Nat) (N : Tmp) (l' : Array Bool) {oi : Oper} {v : Value} {fuel : Nat} {l : Array Bool} {a : Act} {w : World} {a' : Act} (h : wpAnyLast P md ops Q S ds fuel l' a' w)
  (hi : ops[i]? = some oi := by rfl) (hN : oi.dst = some N := by rfl) (hc : anyT T l.toList l'.toList i = true := by kernel_rfl) (hQ : ∀ c a w, Q (.panic c) (a.put oi.dst v) w → Q (.panic c) a w := by exact fun _ _ _ h => h) (hwt : Region.wanted oi (yielded ops a.tmps) = true := by rfl)
  (hy : ∀ w, (execOp a.eval oi).run P w = .ok (.value v) w := by intro w'; go_simp; with_reducible rfl) (ha : a.put (some N) v = a' := by simp only [Act.put, q_]; rfl) : wpAnyLast P md ops Q S ds (fuel + 1) l a w := pure_ l' hi hN (any_of HT.out hc) hQ (Or.inl ⟨hwt, hy⟩) ha h
theorem pr_ {P : Program} {ops : Array Oper} {Q : Exit → Act → World → Prop} {md : Region.Mode} {S : World → Prop} {ds : List Nat} {T} (HT : Aside0 (rtab md ops = T)) (i : Nat) (N : Tmp) (l' : Array Bool) {oi : Oper} {fuel : Nat} {l : Array Bool} {a : Act} {w : World} {a' : Act} (h : wpAnyLast P md ops Q S ds fuel l' a' w)
  (hi : ops[i]? = some oi := by rfl) (hN : oi.dst = some N := by rfl) (hc : anyT T l.toList l'.toList i = true := by kernel_rfl) (hQ : ∀ c a w, Q (.panic c) (a.put oi.dst undef) w → Q (.panic c) a w := by exact fun _ _ _ h => h) (hwt : Region.wanted oi (yielded ops a.tmps) = false := by rfl)
  (ha : a.put (some N) undef = a' := by simp only [Act.put, q_]; rfl) : wpAnyLast P md ops Q S ds (fuel + 1) l a w := pure_ l' hi hN (any_of HT.out hc) hQ (Or.inr ⟨hwt, rfl⟩) ha h
theorem gw_ {w W : World} {g : Nat} (hg : g = W.heap.size) (h : Below w.heap.size w W := by repeat (first | (with_reducible first | exact HB.out | apply below_alloc | apply pw_below_drewN | apply below_drew1 | refine below_set ?_ (Aside0.out (by assumption))) | exact HB.out)) : Aside0 (w.heap.size ≤ g) := ⟨by rw [hg]; exact below_size h⟩
theorem sq_ {α : Type} {a b : α} (h : a = b := by first | rfl | (simp [errW_none, errW_some] <;> rfl) | (simp [*, errW_none, errW_some] <;> rfl)) : a = b := h
abbrev b0 : Bool := false
abbrev b1 : Bool := true
theorem ob_ {α β : Type} {x : Option α} {f : α → Option β} {r : β} (h : x.bind f = some r) : ∃ t, Aside0 (x = some t) ∧ f t = some r := by
  obtain ⟨t, a, b⟩ := Option.bind_eq_some_iff.mp h
  exact ⟨t, ⟨a⟩, b⟩
theorem ip_ {α : Type} {a b : Option α} {r : α} (h : (if true = true then a else b) = some r) : a = some r := by rwa [if_pos rfl] at h
theorem in_ {α : Type} {a b : Option α} {r : α} (h : (if false = true then a else b) = some r) : b = some r := by rwa [if_neg (show ¬ (false = true) by decide)] at h
theorem be_ {P : Program} {ops : Array Oper} {Q : Exit → Act → World → Prop} {rest : List Oper} {o : Oper} {a : Act} {W : World} {N : Tmp} {cs : Array Value} {t : TypeId}
    (h : ∀ g, g = W.heap.size → ∀ w1, w1.heap[g]? = some (.cells cs t (0, 0)) → Below W.heap.size W w1 → wpList P ops Q rest (a.put o.dst (.pointer (some ⟨g, 0, none⟩))) w1) (hgd : o.guard = none := by rfl) (hd : o.dst = some N := by rfl)
    (hrun : (execOp a.eval o).run P W = .ok (.value (.pointer (some ⟨W.heap.size, 0, none⟩))) (W.alloc (.cells cs t (0, 0))) := by first | (go_simp; done) | (go_simp; rfl)) : wpList P ops Q (o :: rest) a W := box_event hgd hd hrun h
theorem bx2_ {w : World} {g : Nat} {t : TypeId} {v0 v1 : Value} (b : Aside0 (w.heap[g]? = some (.cells #[v0, v1] t (0, 0)))) : w.cell? ⟨g, 0, none⟩ = some v0 ∧ w.cell? ⟨g, 1, none⟩ = some v1 ∧ w.frozen? ⟨g, 0, none⟩ = false ∧ w.frozen? ⟨g, 1, none⟩ = false := ⟨blk_cell b.out 0, blk_cell b.out 1, blk_frozen b.out 0, blk_frozen b.out 1⟩
theorem bx3_ {w : World} {g : Nat} {t : TypeId} {v0 v1 v2 : Value} (b : Aside0 (w.heap[g]? = some (.cells #[v0, v1, v2] t (0, 0)))) : w.cell? ⟨g, 0, none⟩ = some v0 ∧ w.cell? ⟨g, 1, none⟩ = some v1 ∧ w.cell? ⟨g, 2, none⟩ = some v2 ∧ w.frozen? ⟨g, 0, none⟩ = false ∧ w.frozen? ⟨g, 1, none⟩ = false ∧ w.frozen? ⟨g, 2, none⟩ = false := ⟨blk_cell b.out 0, blk_cell b.out 1, blk_cell b.out 2, blk_frozen b.out 0, blk_frozen b.out 1, blk_frozen b.out 2⟩
theorem bx4_ {w : World} {g : Nat} {t : TypeId} {v0 v1 v2 v3 : Value} (b : Aside0 (w.heap[g]? = some (.cells #[v0, v1, v2, v3] t (0, 0)))) : w.cell? ⟨g, 0, none⟩ = some v0 ∧ w.cell? ⟨g, 1, none⟩ = some v1 ∧ w.cell? ⟨g, 2, none⟩ = some v2 ∧ w.cell? ⟨g, 3, none⟩ = some v3 ∧ w.frozen? ⟨g, 0, none⟩ = false ∧ w.frozen? ⟨g, 1, none⟩ = false ∧ w.frozen? ⟨g, 2, none⟩ = false ∧ w.frozen? ⟨g, 3, none⟩ = false := ⟨blk_cell b.out 0, blk_cell b.out 1, blk_cell b.out 2, blk_cell b.out 3, blk_frozen b.out 0, blk_frozen b.out 1, blk_frozen b.out 2, blk_frozen b.out 3⟩
theorem bx8_ {w : World} {g : Nat} {t : TypeId} {v0 v1 v2 v3 v4 v5 v6 v7 : Value} (b : Aside0 (w.heap[g]? = some (.cells #[v0, v1, v2, v3, v4, v5, v6, v7] t (0, 0)))) : w.cell? ⟨g, 0, none⟩ = some v0 ∧ w.cell? ⟨g, 1, none⟩ = some v1 ∧ w.cell? ⟨g, 2, none⟩ = some v2 ∧ w.cell? ⟨g, 3, none⟩ = some v3 ∧ w.cell? ⟨g, 4, none⟩ = some v4 ∧ w.cell? ⟨g, 5, none⟩ = some v5 ∧ w.cell? ⟨g, 6, none⟩ = some v6 ∧ w.cell? ⟨g, 7, none⟩ = some v7 ∧ w.frozen? ⟨g, 0, none⟩ = false ∧ w.frozen? ⟨g, 1, none⟩ = false ∧ w.frozen? ⟨g, 2, none⟩ = false ∧ w.frozen? ⟨g, 3, none⟩ = false ∧ w.frozen? ⟨g, 4, none⟩ = false ∧ w.frozen? ⟨g, 5, none⟩ = false ∧ w.frozen? ⟨g, 6, none⟩ = false ∧ w.frozen? ⟨g, 7, none⟩ = false := ⟨blk_cell b.out 0, blk_cell b.out 1, blk_cell b.out 2, blk_cell b.out 3, blk_cell b.out 4, blk_cell b.out 5, blk_cell b.out 6, blk_cell b.out 7, blk_frozen b.out 0, blk_frozen b.out 1, blk_frozen b.out 2, blk_frozen b.out 3, blk_frozen b.out 4, blk_frozen b.out 5, blk_frozen b.out 6, blk_frozen b.out 7⟩
theorem bx9_ {w : World} {g : Nat} {t : TypeId} {v0 v1 v2 v3 v4 v5 v6 v7 v8 : Value} (b : Aside0 (w.heap[g]? = some (.cells #[v0, v1, v2, v3, v4, v5, v6, v7, v8] t (0, 0)))) : w.cell? ⟨g, 0, none⟩ = some v0 ∧ w.cell? ⟨g, 1, none⟩ = some v1 ∧ w.cell? ⟨g, 2, none⟩ = some v2 ∧ w.cell? ⟨g, 3, none⟩ = some v3 ∧ w.cell? ⟨g, 4, none⟩ = some v4 ∧ w.cell? ⟨g, 5, none⟩ = some v5 ∧ w.cell? ⟨g, 6, none⟩ = some v6 ∧ w.cell? ⟨g, 7, none⟩ = some v7 ∧ w.cell? ⟨g, 8, none⟩ = some v8 ∧ w.frozen? ⟨g, 0, none⟩ = false ∧ w.frozen? ⟨g, 1, none⟩ = false ∧ w.frozen? ⟨g, 2, none⟩ = false ∧ w.frozen? ⟨g, 3, none⟩ = false ∧ w.frozen? ⟨g, 4, none⟩ = false ∧ w.frozen? ⟨g, 5, none⟩ = false ∧ w.frozen? ⟨g, 6, none⟩ = false ∧ w.frozen? ⟨g, 7, none⟩ = false ∧ w.frozen? ⟨g, 8, none⟩ = false := ⟨blk_cell b.out 0, blk_cell b.out 1, blk_cell b.out 2, blk_cell b.out 3, blk_cell b.out 4, blk_cell b.out 5, blk_cell b.out 6, blk_cell b.out 7, blk_cell b.out 8, blk_frozen b.out 0, blk_frozen b.out 1, blk_frozen b.out 2, blk_frozen b.out 3, blk_frozen b.out 4, blk_frozen b.out 5, blk_frozen b.out 6, blk_frozen b.out 7, blk_frozen b.out 8⟩
theorem bp1_0_ {w : World} {g : Nat} {t : TypeId} {z0 u : Value} (h : w.heap[g]? = some (.cells #[z0] t (0, 0))) : (w.setCell ⟨g, 0, none⟩ u).heap[g]? = some (.cells #[u] t (0, 0)) := blk_put h 0 u rfl
theorem bp2_0_ {w : World} {g : Nat} {t : TypeId} {z0 z1 u : Value} (h : w.heap[g]? = some (.cells #[z0, z1] t (0, 0))) : (w.setCell ⟨g, 0, none⟩ u).heap[g]? = some (.cells #[u, z1] t (0, 0)) := blk_put h 0 u rfl
theorem bp2_1_ {w : World} {g : Nat} {t : TypeId} {z0 z1 u : Value} (h : w.heap[g]? = some (.cells #[z0, z1] t (0, 0))) : (w.setCell ⟨g, 1, none⟩ u).heap[g]? = some (.cells #[z0, u] t (0, 0)) := blk_put h 1 u rfl
theorem bp3_0_ {w : World} {g : Nat} {t : TypeId} {z0 z1 z2 u : Value} (h : w.heap[g]? = some (.cells #[z0, z1, z2] t (0, 0))) : (w.setCell ⟨g, 0, none⟩ u).heap[g]? = some (.cells #[u, z1, z2] t (0, 0)) := blk_put h 0 u rfl
theorem bp3_1_ {w : World} {g : Nat} {t : TypeId} {z0 z1 z2 u : Value} (h : w.heap[g]? = some (.cells #[z0, z1, z2] t (0, 0))) : (w.setCell ⟨g, 1, none⟩ u).heap[g]? = some (.cells #[z0, u, z2] t (0, 0)) := blk_put h 1 u rfl
theorem bp3_2_ {w : World} {g : Nat} {t : TypeId} {z0 z1 z2 u : Value} (h : w.heap[g]? = some (.cells #[z0, z1, z2] t (0, 0))) : (w.setCell ⟨g, 2, none⟩ u).heap[g]? = some (.cells #[z0, z1, u] t (0, 0)) := blk_put h 2 u rfl
theorem bp4_0_ {w : World} {g : Nat} {t : TypeId} {z0 z1 z2 z3 u : Value} (h : w.heap[g]? = some (.cells #[z0, z1, z2, z3] t (0, 0))) : (w.setCell ⟨g, 0, none⟩ u).heap[g]? = some (.cells #[u, z1, z2, z3] t (0, 0)) := blk_put h 0 u rfl
theorem bp4_1_ {w : World} {g : Nat} {t : TypeId} {z0 z1 z2 z3 u : Value} (h : w.heap[g]? = some (.cells #[z0, z1, z2, z3] t (0, 0))) : (w.setCell ⟨g, 1, none⟩ u).heap[g]? = some (.cells #[z0, u, z2, z3] t (0, 0)) := blk_put h 1 u rfl
theorem bp4_2_ {w : World} {g : Nat} {t : TypeId} {z0 z1 z2 z3 u : Value} (h : w.heap[g]? = some (.cells #[z0, z1, z2, z3] t (0, 0))) : (w.setCell ⟨g, 2, none⟩ u).heap[g]? = some (.cells #[z0, z1, u, z3] t (0, 0)) := blk_put h 2 u rfl
theorem bp4_3_ {w : World} {g : Nat} {t : TypeId} {z0 z1 z2 z3 u : Value} (h : w.heap[g]? = some (.cells #[z0, z1, z2, z3] t (0, 0))) : (w.setCell ⟨g, 3, none⟩ u).heap[g]? = some (.cells #[z0, z1, z2, u] t (0, 0)) := blk_put h 3 u rfl
theorem bp8_0_ {w : World} {g : Nat} {t : TypeId} {z0 z1 z2 z3 z4 z5 z6 z7 u : Value} (h : w.heap[g]? = some (.cells #[z0, z1, z2, z3, z4, z5, z6, z7] t (0, 0))) : (w.setCell ⟨g, 0, none⟩ u).heap[g]? = some (.cells #[u, z1, z2, z3, z4, z5, z6, z7] t (0, 0)) := blk_put h 0 u rfl
theorem bp8_1_ {w : World} {g : Nat} {t : TypeId} {z0 z1 z2 z3 z4 z5 z6 z7 u : Value} (h : w.heap[g]? = some (.cells #[z0, z1, z2, z3, z4, z5, z6, z7] t (0, 0))) : (w.setCell ⟨g, 1, none⟩ u).heap[g]? = some (.cells #[z0, u, z2, z3, z4, z5, z6, z7] t (0, 0)) := blk_put h 1 u rfl
theorem bp8_2_ {w : World} {g : Nat} {t : TypeId} {z0 z1 z2 z3 z4 z5 z6 z7 u : Value} (h : w.heap[g]? = some (.cells #[z0, z1, z2, z3, z4, z5, z6, z7] t (0, 0))) : (w.setCell ⟨g, 2, none⟩ u).heap[g]? = some (.cells #[z0, z1, u, z3, z4, z5, z6, z7] t (0, 0)) := blk_put h 2 u rfl
theorem bp8_3_ {w : World} {g : Nat} {t : TypeId} {z0 z1 z2 z3 z4 z5 z6 z7 u : Value} (h : w.heap[g]? = some (.cells #[z0, z1, z2, z3, z4, z5, z6, z7] t (0, 0))) : (w.setCell ⟨g, 3, none⟩ u).heap[g]? = some (.cells #[z0, z1, z2, u, z4, z5, z6, z7] t (0, 0)) := blk_put h 3 u rfl
theorem bp8_4_ {w : World} {g : Nat} {t : TypeId} {z0 z1 z2 z3 z4 z5 z6 z7 u : Value} (h : w.heap[g]? = some (.cells #[z0, z1, z2, z3, z4, z5, z6, z7] t (0, 0))) : (w.setCell ⟨g, 4, none⟩ u).heap[g]? = some (.cells #[z0, z1, z2, z3, u, z5, z6, z7] t (0, 0)) := blk_put h 4 u rfl
theorem bp8_5_ {w : World} {g : Nat} {t : TypeId} {z0 z1 z2 z3 z4 z5 z6 z7 u : Value} (h : w.heap[g]? = some (.cells #[z0, z1, z2, z3, z4, z5, z6, z7] t (0, 0))) : (w.setCell ⟨g, 5, none⟩ u).heap[g]? = some (.cells #[z0, z1, z2, z3, z4, u, z6, z7] t (0, 0)) := blk_put h 5 u rfl
theorem bp8_6_ {w : World} {g : Nat} {t : TypeId} {z0 z1 z2 z3 z4 z5 z6 z7 u : Value} (h : w.heap[g]? = some (.cells #[z0, z1, z2, z3, z4, z5, z6, z7] t (0, 0))) : (w.setCell ⟨g, 6, none⟩ u).heap[g]? = some (.cells #[z0, z1, z2, z3, z4, z5, u, z7] t (0, 0)) := blk_put h 6 u rfl
theorem bp8_7_ {w : World} {g : Nat} {t : TypeId} {z0 z1 z2 z3 z4 z5 z6 z7 u : Value} (h : w.heap[g]? = some (.cells #[z0, z1, z2, z3, z4, z5, z6, z7] t (0, 0))) : (w.setCell ⟨g, 7, none⟩ u).heap[g]? = some (.cells #[z0, z1, z2, z3, z4, z5, z6, u] t (0, 0)) := blk_put h 7 u rfl
theorem bp9_0_ {w : World} {g : Nat} {t : TypeId} {z0 z1 z2 z3 z4 z5 z6 z7 z8 u : Value} (h : w.heap[g]? = some (.cells #[z0, z1, z2, z3, z4, z5, z6, z7, z8] t (0, 0))) : (w.setCell ⟨g, 0, none⟩ u).heap[g]? = some (.cells #[u, z1, z2, z3, z4, z5, z6, z7, z8] t (0, 0)) := blk_put h 0 u rfl
theorem bp9_1_ {w : World} {g : Nat} {t : TypeId} {z0 z1 z2 z3 z4 z5 z6 z7 z8 u : Value} (h : w.heap[g]? = some (.cells #[z0, z1, z2, z3, z4, z5, z6, z7, z8] t (0, 0))) : (w.setCell ⟨g, 1, none⟩ u).heap[g]? = some (.cells #[z0, u, z2, z3, z4, z5, z6, z7, z8] t (0, 0)) := blk_put h 1 u rfl
theorem bp9_2_ {w : World} {g : Nat} {t : TypeId} {z0 z1 z2 z3 z4 z5 z6 z7 z8 u : Value} (h : w.heap[g]? = some (.cells #[z0, z1, z2, z3, z4, z5, z6, z7, z8] t (0, 0))) : (w.setCell ⟨g, 2, none⟩ u).heap[g]? = some (.cells #[z0, z1, u, z3, z4, z5, z6, z7, z8] t (0, 0)) := blk_put h 2 u rfl
theorem bp9_3_ {w : World} {g : Nat} {t : TypeId} {z0 z1 z2 z3 z4 z5 z6 z7 z8 u : Value} (h : w.heap[g]? = some (.cells #[z0, z1, z2, z3, z4, z5, z6, z7, z8] t (0, 0))) : (w.setCell ⟨g, 3, none⟩ u).heap[g]? = some (.cells #[z0, z1, z2, u, z4, z5, z6, z7, z8] t (0, 0)) := blk_put h 3 u rfl
theorem bp9_4_ {w : World} {g : Nat} {t : TypeId} {z0 z1 z2 z3 z4 z5 z6 z7 z8 u : Value} (h : w.heap[g]? = some (.cells #[z0, z1, z2, z3, z4, z5, z6, z7, z8] t (0, 0))) : (w.setCell ⟨g, 4, none⟩ u).heap[g]? = some (.cells #[z0, z1, z2, z3, u, z5, z6, z7, z8] t (0, 0)) := blk_put h 4 u rfl
theorem bp9_5_ {w : World} {g : Nat} {t : TypeId} {z0 z1 z2 z3 z4 z5 z6 z7 z8 u : Value} (h : w.heap[g]? = some (.cells #[z0, z1, z2, z3, z4, z5, z6, z7, z8] t (0, 0))) : (w.setCell ⟨g, 5, none⟩ u).heap[g]? = some (.cells #[z0, z1, z2, z3, z4, u, z6, z7, z8] t (0, 0)) := blk_put h 5 u rfl
theorem bp9_6_ {w : World} {g : Nat} {t : TypeId} {z0 z1 z2 z3 z4 z5 z6 z7 z8 u : Value} (h : w.heap[g]? = some (.cells #[z0, z1, z2, z3, z4, z5, z6, z7, z8] t (0, 0))) : (w.setCell ⟨g, 6, none⟩ u).heap[g]? = some (.cells #[z0, z1, z2, z3, z4, z5, u, z7, z8] t (0, 0)) := blk_put h 6 u rfl
theorem bp9_7_ {w : World} {g : Nat} {t : TypeId} {z0 z1 z2 z3 z4 z5 z6 z7 z8 u : Value} (h : w.heap[g]? = some (.cells #[z0, z1, z2, z3, z4, z5, z6, z7, z8] t (0, 0))) : (w.setCell ⟨g, 7, none⟩ u).heap[g]? = some (.cells #[z0, z1, z2, z3, z4, z5, z6, u, z8] t (0, 0)) := blk_put h 7 u rfl
theorem bp9_8_ {w : World} {g : Nat} {t : TypeId} {z0 z1 z2 z3 z4 z5 z6 z7 z8 u : Value} (h : w.heap[g]? = some (.cells #[z0, z1, z2, z3, z4, z5, z6, z7, z8] t (0, 0))) : (w.setCell ⟨g, 8, none⟩ u).heap[g]? = some (.cells #[z0, z1, z2, z3, z4, z5, z6, z7, u] t (0, 0)) := blk_put h 8 u rfl
theorem bq1_0_ {w : World} {g : Nat} {t : TypeId} {z0 u0 : Value} (h : w.heap[g]? = some (.cells #[z0] t (0, 0))) : (w.setCell ⟨g, 0, none⟩ u0).heap[g]? = some (.cells #[u0] t (0, 0)) := by
  have h0 := bp1_0_ (u := u0) h
  exact h0
theorem bq2_1_ {w : World} {g : Nat} {t : TypeId} {z0 z1 u0 : Value} (h : w.heap[g]? = some (.cells #[z0, z1] t (0, 0))) : (w.setCell ⟨g, 1, none⟩ u0).heap[g]? = some (.cells #[z0, u0] t (0, 0)) := by
  have h0 := bp2_1_ (u := u0) h
  exact h0
theorem bq2_1_0_ {w : World} {g : Nat} {t : TypeId} {z0 z1 u0 u1 : Value} (h : w.heap[g]? = some (.cells #[z0, z1] t (0, 0))) : ((w.setCell ⟨g, 0, none⟩ u1).setCell ⟨g, 1, none⟩ u0).heap[g]? = some (.cells #[u1, u0] t (0, 0)) := by
  have h0 := bp2_0_ (u := u1) h; have h1 := bp2_1_ (u := u0) h0
  exact h1
theorem bq3_2_1_0_ {w : World} {g : Nat} {t : TypeId} {z0 z1 z2 u0 u1 u2 : Value} (h : w.heap[g]? = some (.cells #[z0, z1, z2] t (0, 0))) : (((w.setCell ⟨g, 0, none⟩ u2).setCell ⟨g, 1, none⟩ u1).setCell ⟨g, 2, none⟩ u0).heap[g]? = some (.cells #[u2, u1, u0] t (0, 0)) := by
  have h0 := bp3_0_ (u := u2) h; have h1 := bp3_1_ (u := u1) h0; have h2 := bp3_2_ (u := u0) h1
  exact h2
theorem bq4_3_2_1_0_ {w : World} {g : Nat} {t : TypeId} {z0 z1 z2 z3 u0 u1 u2 u3 : Value} (h : w.heap[g]? = some (.cells #[z0, z1, z2, z3] t (0, 0))) : ((((w.setCell ⟨g, 0, none⟩ u3).setCell ⟨g, 1, none⟩ u2).setCell ⟨g, 2, none⟩ u1).setCell ⟨g, 3, none⟩ u0).heap[g]? = some (.cells #[u3, u2, u1, u0] t (0, 0)) := by
  have h0 := bp4_0_ (u := u3) h; have h1 := bp4_1_ (u := u2) h0; have h2 := bp4_2_ (u := u1) h1; have h3 := bp4_3_ (u := u0) h2
  exact h3
theorem bq8_0_ {w : World} {g : Nat} {t : TypeId} {z0 z1 z2 z3 z4 z5 z6 z7 u0 : Value} (h : w.heap[g]? = some (.cells #[z0, z1, z2, z3, z4, z5, z6, z7] t (0, 0))) : (w.setCell ⟨g, 0, none⟩ u0).heap[g]? = some (.cells #[u0, z1, z2, z3, z4, z5, z6, z7] t (0, 0)) := by
  have h0 := bp8_0_ (u := u0) h
  exact h0
theorem bq8_1_ {w : World} {g : Nat} {t : TypeId} {z0 z1 z2 z3 z4 z5 z6 z7 u0 : Value} (h : w.heap[g]? = some (.cells #[z0, z1, z2, z3, z4, z5, z6, z7] t (0, 0))) : (w.setCell ⟨g, 1, none⟩ u0).heap[g]? = some (.cells #[z0, u0, z2, z3, z4, z5, z6, z7] t (0, 0)) := by
  have h0 := bp8_1_ (u := u0) h
  exact h0
theorem bq8_2_ {w : World} {g : Nat} {t : TypeId} {z0 z1 z2 z3 z4 z5 z6 z7 u0 : Value} (h : w.heap[g]? = some (.cells #[z0, z1, z2, z3, z4, z5, z6, z7] t (0, 0))) : (w.setCell ⟨g, 2, none⟩ u0).heap[g]? = some (.cells #[z0, z1, u0, z3, z4, z5, z6, z7] t (0, 0)) := by
  have h0 := bp8_2_ (u := u0) h
  exact h0
theorem bq8_3_ {w : World} {g : Nat} {t : TypeId} {z0 z1 z2 z3 z4 z5 z6 z7 u0 : Value} (h : w.heap[g]? = some (.cells #[z0, z1, z2, z3, z4, z5, z6, z7] t (0, 0))) : (w.setCell ⟨g, 3, none⟩ u0).heap[g]? = some (.cells #[z0, z1, z2, u0, z4, z5, z6, z7] t (0, 0)) := by
  have h0 := bp8_3_ (u := u0) h
  exact h0
theorem bq8_4_ {w : World} {g : Nat} {t : TypeId} {z0 z1 z2 z3 z4 z5 z6 z7 u0 : Value} (h : w.heap[g]? = some (.cells #[z0, z1, z2, z3, z4, z5, z6, z7] t (0, 0))) : (w.setCell ⟨g, 4, none⟩ u0).heap[g]? = some (.cells #[z0, z1, z2, z3, u0, z5, z6, z7] t (0, 0)) := by
  have h0 := bp8_4_ (u := u0) h
  exact h0
theorem bq8_6_ {w : World} {g : Nat} {t : TypeId} {z0 z1 z2 z3 z4 z5 z6 z7 u0 : Value} (h : w.heap[g]? = some (.cells #[z0, z1, z2, z3, z4, z5, z6, z7] t (0, 0))) : (w.setCell ⟨g, 6, none⟩ u0).heap[g]? = some (.cells #[z0, z1, z2, z3, z4, z5, u0, z7] t (0, 0)) := by
  have h0 := bp8_6_ (u := u0) h
  exact h0
theorem bq8_7_ {w : World} {g : Nat} {t : TypeId} {z0 z1 z2 z3 z4 z5 z6 z7 u0 : Value} (h : w.heap[g]? = some (.cells #[z0, z1, z2, z3, z4, z5, z6, z7] t (0, 0))) : (w.setCell ⟨g, 7, none⟩ u0).heap[g]? = some (.cells #[z0, z1, z2, z3, z4, z5, z6, u0] t (0, 0)) := by
  have h0 := bp8_7_ (u := u0) h
  exact h0
theorem bq8_7_6_5_4_3_2_1_0_ {w : World} {g : Nat} {t : TypeId} {z0 z1 z2 z3 z4 z5 z6 z7 u0 u1 u2 u3 u4 u5 u6 u7 : Value} (h : w.heap[g]? = some (.cells #[z0, z1, z2, z3, z4, z5, z6, z7] t (0, 0))) : ((((((((w.setCell ⟨g, 0, none⟩ u7).setCell ⟨g, 1, none⟩ u6).setCell ⟨g, 2, none⟩ u5).setCell ⟨g, 3, none⟩ u4).setCell ⟨g, 4, none⟩ u3).setCell ⟨g, 5, none⟩ u2).setCell ⟨g, 6, none⟩ u1).setCell ⟨g, 7, none⟩ u0).heap[g]? = some (.cells #[u7, u6, u5, u4, u3, u2, u1, u0] t (0, 0)) := by
  have h0 := bp8_0_ (u := u7) h; have h1 := bp8_1_ (u := u6) h0; have h2 := bp8_2_ (u := u5) h1; have h3 := bp8_3_ (u := u4) h2; have h4 := bp8_4_ (u := u3) h3; have h5 := bp8_5_ (u := u2) h4; have h6 := bp8_6_ (u := u1) h5; have h7 := bp8_7_ (u := u0) h6
  exact h7
theorem bq9_1_0_ {w : World} {g : Nat} {t : TypeId} {z0 z1 z2 z3 z4 z5 z6 z7 z8 u0 u1 : Value} (h : w.heap[g]? = some (.cells #[z0, z1, z2, z3, z4, z5, z6, z7, z8] t (0, 0))) : ((w.setCell ⟨g, 0, none⟩ u1).setCell ⟨g, 1, none⟩ u0).heap[g]? = some (.cells #[u1, u0, z2, z3, z4, z5, z6, z7, z8] t (0, 0)) := by
  have h0 := bp9_0_ (u := u1) h; have h1 := bp9_1_ (u := u0) h0
  exact h1
theorem bq9_7_6_5_4_3_2_ {w : World} {g : Nat} {t : TypeId} {z0 z1 z2 z3 z4 z5 z6 z7 z8 u0 u1 u2 u3 u4 u5 : Value} (h : w.heap[g]? = some (.cells #[z0, z1, z2, z3, z4, z5, z6, z7, z8] t (0, 0))) : ((((((w.setCell ⟨g, 2, none⟩ u5).setCell ⟨g, 3, none⟩ u4).setCell ⟨g, 4, none⟩ u3).setCell ⟨g, 5, none⟩ u2).setCell ⟨g, 6, none⟩ u1).setCell ⟨g, 7, none⟩ u0).heap[g]? = some (.cells #[z0, z1, u5, u4, u3, u2, u1, u0, z8] t (0, 0)) := by
  have h0 := bp9_2_ (u := u5) h; have h1 := bp9_3_ (u := u4) h0; have h2 := bp9_4_ (u := u3) h1; have h3 := bp9_5_ (u := u2) h2; have h4 := bp9_6_ (u := u1) h3; have h5 := bp9_7_ (u := u0) h4
  exact h5
theorem bq9_8_7_6_5_4_3_2_1_0_ {w : World} {g : Nat} {t : TypeId} {z0 z1 z2 z3 z4 z5 z6 z7 z8 u0 u1 u2 u3 u4 u5 u6 u7 u8 : Value} (h : w.heap[g]? = some (.cells #[z0, z1, z2, z3, z4, z5, z6, z7, z8] t (0, 0))) : (((((((((w.setCell ⟨g, 0, none⟩ u8).setCell ⟨g, 1, none⟩ u7).setCell ⟨g, 2, none⟩ u6).setCell ⟨g, 3, none⟩ u5).setCell ⟨g, 4, none⟩ u4).setCell ⟨g, 5, none⟩ u3).setCell ⟨g, 6, none⟩ u2).setCell ⟨g, 7, none⟩ u1).setCell ⟨g, 8, none⟩ u0).heap[g]? = some (.cells #[u8, u7, u6, u5, u4, u3, u2, u1, u0] t (0, 0)) := by
  have h0 := bp9_0_ (u := u8) h; have h1 := bp9_1_ (u := u7) h0; have h2 := bp9_2_ (u := u6) h1; have h3 := bp9_3_ (u := u5) h2; have h4 := bp9_4_ (u := u4) h3; have h5 := bp9_5_ (u := u3) h4; have h6 := bp9_6_ (u := u2) h5; have h7 := bp9_7_ (u := u1) h6; have h8 := bp9_8_ (u := u0) h7
  exact h8
theorem cf0_1_ {W : World} {g : Nat} {a : Addr} {u : Value} (hn : a.block ≠ g) (h : W.cell? a = some u) : ∀ v0 v1 : Value, ((W.setCell ⟨g, 0, none⟩ v0).setCell ⟨g, 1, none⟩ v1).cell? a = some u := fun v0 v1 => (cell_far (p := ⟨g, 1, none⟩) hn v1).trans ((cell_far (p := ⟨g, 0, none⟩) hn v0).trans h)
theorem gcf0_1_ {W : World} {g : Nat} {a : Addr} {u : Value} (hn : a.block ≠ g) (h : ∀ v0 v1 : Value, ((W.setCell ⟨g, 0, none⟩ v0).setCell ⟨g, 1, none⟩ v1).cell? a = some u) : ∀ (n : Nat) (v0 v1 : Value), (((W.drewN n).setCell ⟨g, 0, none⟩ v0).setCell ⟨g, 1, none⟩ v1).cell? a = some u := fun n v0 v1 => cf0_1_ hn (show (W.drewN n).cell? a = some u from ((cell_far (W := (W.setCell ⟨g, 0, none⟩ v0)) (p := ⟨g, 1, none⟩) hn v1).trans ((cell_far (W := W) (p := ⟨g, 0, none⟩) hn v0))).symm.trans (h v0 v1)) v0 v1
theorem by2_ {w : World} {g : Nat} {t : TypeId} {v0 v1 : Value} {G : Prop} (b : Aside0 (w.heap[g]? = some (.cells #[v0, v1] t (0, 0)))) (k : w.cell? ⟨g, 0, none⟩ = some v0 → w.cell? ⟨g, 1, none⟩ = some v1 → w.frozen? ⟨g, 0, none⟩ = false → w.frozen? ⟨g, 1, none⟩ = false → G) : G := k (blk_cell b.out 0) (blk_cell b.out 1) (blk_frozen b.out 0) (blk_frozen b.out 1)
theorem by3_ {w : World} {g : Nat} {t : TypeId} {v0 v1 v2 : Value} {G : Prop} (b : Aside0 (w.heap[g]? = some (.cells #[v0, v1, v2] t (0, 0)))) (k : w.cell? ⟨g, 0, none⟩ = some v0 → w.cell? ⟨g, 1, none⟩ = some v1 → w.cell? ⟨g, 2, none⟩ = some v2 → w.frozen? ⟨g, 0, none⟩ = false → w.frozen? ⟨g, 1, none⟩ = false → w.frozen? ⟨g, 2, none⟩ = false → G) : G := k (blk_cell b.out 0) (blk_cell b.out 1) (blk_cell b.out 2) (blk_frozen b.out 0) (blk_frozen b.out 1) (blk_frozen b.out 2)
theorem by4_ {w : World} {g : Nat} {t : TypeId} {v0 v1 v2 v3 : Value} {G : Prop} (b : Aside0 (w.heap[g]? = some (.cells #[v0, v1, v2, v3] t (0, 0)))) (k : w.cell? ⟨g, 0, none⟩ = some v0 → w.cell? ⟨g, 1, none⟩ = some v1 → w.cell? ⟨g, 2, none⟩ = some v2 → w.cell? ⟨g, 3, none⟩ = some v3 → w.frozen? ⟨g, 0, none⟩ = false → w.frozen? ⟨g, 1, none⟩ = false → w.frozen? ⟨g, 2, none⟩ = false → w.frozen? ⟨g, 3, none⟩ = false → G) : G := k (blk_cell b.out 0) (blk_cell b.out 1) (blk_cell b.out 2) (blk_cell b.out 3) (blk_frozen b.out 0) (blk_frozen b.out 1) (blk_frozen b.out 2) (blk_frozen b.out 3)
theorem by8_ {w : World} {g : Nat} {t : TypeId} {v0 v1 v2 v3 v4 v5 v6 v7 : Value} {G : Prop} (b : Aside0 (w.heap[g]? = some (.cells #[v0, v1, v2, v3, v4, v5, v6, v7] t (0, 0)))) (k : w.cell? ⟨g, 0, none⟩ = some v0 → w.cell? ⟨g, 1, none⟩ = some v1 → w.cell? ⟨g, 2, none⟩ = some v2 → w.cell? ⟨g, 3, none⟩ = some v3 → w.cell? ⟨g, 4, none⟩ = some v4 → w.cell? ⟨g, 5, none⟩ = some v5 → w.cell? ⟨g, 6, none⟩ = some v6 → w.cell? ⟨g, 7, none⟩ = some v7 → w.frozen? ⟨g, 0, none⟩ = false → w.frozen? ⟨g, 1, none⟩ = false → w.frozen? ⟨g, 2, none⟩ = false → w.frozen? ⟨g, 3, none⟩ = false → w.frozen? ⟨g, 4, none⟩ = false → w.frozen? ⟨g, 5, none⟩ = false → w.frozen? ⟨g, 6, none⟩ = false → w.frozen? ⟨g, 7, none⟩ = false → G) : G := k (blk_cell b.out 0) (blk_cell b.out 1) (blk_cell b.out 2) (blk_cell b.out 3) (blk_cell b.out 4) (blk_cell b.out 5) (blk_cell b.out 6) (blk_cell b.out 7) (blk_frozen b.out 0) (blk_frozen b.out 1) (blk_frozen b.out 2) (blk_frozen b.out 3) (blk_frozen b.out 4) (blk_frozen b.out 5) (blk_frozen b.out 6) (blk_frozen b.out 7)
theorem by9_ {w : World} {g : Nat} {t : TypeId} {v0 v1 v2 v3 v4 v5 v6 v7 v8 : Value} {G : Prop} (b : Aside0 (w.heap[g]? = some (.cells #[v0, v1, v2, v3, v4, v5, v6, v7, v8] t (0, 0)))) (k : w.cell? ⟨g, 0, none⟩ = some v0 → w.cell? ⟨g, 1, none⟩ = some v1 → w.cell? ⟨g, 2, none⟩ = some v2 → w.cell? ⟨g, 3, none⟩ = some v3 → w.cell? ⟨g, 4, none⟩ = some v4 → w.cell? ⟨g, 5, none⟩ = some v5 → w.cell? ⟨g, 6, none⟩ = some v6 → w.cell? ⟨g, 7, none⟩ = some v7 → w.cell? ⟨g, 8, none⟩ = some v8 → w.frozen? ⟨g, 0, none⟩ = false → w.frozen? ⟨g, 1, none⟩ = false → w.frozen? ⟨g, 2, none⟩ = false → w.frozen? ⟨g, 3, none⟩ = false → w.frozen? ⟨g, 4, none⟩ = false → w.frozen? ⟨g, 5, none⟩ = false → w.frozen? ⟨g, 6, none⟩ = false → w.frozen? ⟨g, 7, none⟩ = false → w.frozen? ⟨g, 8, none⟩ = false → G) : G := k (blk_cell b.out 0) (blk_cell b.out 1) (blk_cell b.out 2) (blk_cell b.out 3) (blk_cell b.out 4) (blk_cell b.out 5) (blk_cell b.out 6) (blk_cell b.out 7) (blk_cell b.out 8) (blk_frozen b.out 0) (blk_frozen b.out 1) (blk_frozen b.out 2) (blk_frozen b.out 3) (blk_frozen b.out 4) (blk_frozen b.out 5) (blk_frozen b.out 6) (blk_frozen b.out 7) (blk_frozen b.out 8)
theorem gc_ {P : Program} {ops : Array Oper} {Q : Exit → Act → World → Prop} {rest : List Oper} {oi : Oper} {a : Act} {w : World} (f : FuncId) (n : Tmp) {fn : Func} {as_ : Array Operand} {ts : Array TypeId} (hf : P.funcs[f]? = some fn) (args : Array Value)
  (h : Calls P f args w fun e w' => ∃ v, e = .returned v ∧ wpList P ops Q rest (a.put (some n) v) w') (hop : oi.op = .call { callee := .value (.func f), args := as_, argTypes := ts } := by with_reducible rfl) (hd : oi.dst = some n := by with_unfolding_all rfl) (hg : oi.guard = none := by with_unfolding_all rfl) (hname : (fn.name == "runtime.NumGoroutine") = false := by kernel_rfl) (hb : fn.body.isSome = true := by with_unfolding_all rfl)
  (hargs : as_.map a.eval = args := by (try simp only [List.map_toArray, List.map_cons, List.map_nil]); first | done | with_unfolding_all rfl | (simp only [List.length_drop, List.length_take]; with_unfolding_all rfl)) : wpList P ops Q (oi :: rest) a w := goesL_ (some n) hd hg hf hname hb args hop hargs h
theorem hs_ {w W W' : World} (hb : Below W.heap.size W W') (h : Below w.heap.size w W := by repeat (first | (with_reducible first | exact HB.out | apply below_alloc | apply pw_below_drewN | apply below_drew1 | refine below_set ?_ (Aside0.out (by assumption))) | exact HB.out)) : Aside0 (Below w.heap.size w W') := ⟨below_step h hb⟩
theorem kb_ {w W W' : World} {g : Nat} {o : Obj} (b : Aside0 (w.heap[g]? = some o)) (hb : Below W.heap.size W W') (h : w.heap[g]? = some o → W.heap[g]? = some o := by intro h_; (with_reducible repeat (first | refine blk_drewN ?_ _ | refine blk_drew ?_ | refine blk_alloc ?_ _)); exact h_) : Aside0 (W'.heap[g]? = some o) := ⟨blk_below (h b.out) hb⟩
theorem ch_ {P Q : Prop} (b : P) (h : P → Q := by intro h_; (with_reducible repeat (first | refine blk_drewN ?_ _ | refine blk_drew ?_ | refine blk_alloc ?_ _)); exact h_) : Q := h b
theorem cr_ {P Q : Prop} (b : P) (h : P → Q := by intro h_; (with_reducible repeat (first | apply Kd.R_alloc | apply Kd.R_drewN | apply Kd.R_drew)); exact h_) : Q := h b
theorem cv_ {P Q : Prop} (b : P) (h : P → Q := by intro h_; (with_reducible repeat (first | apply Kd.V_alloc | apply Kd.V_drewN | apply Kd.V_drew)); exact h_) : Q := h b
theorem dq_ {P : Prop} (h : P := by first | exact ⟨rfl, _, World.drewN_drewN _ _ _⟩ | exact ⟨rfl, _, Eq.trans (World.drewN_drewN _ _ _) (congrArg (World.drewN _) (Nat.add_assoc _ _ _))⟩) : P := h
theorem dr_ {P : Prop} (h : P := by repeat (first | exact Drawn0.refl _ | apply Drawn0.step)) : P := h
theorem nb_ {w W : World} {g a : Nat} {o : Obj} (hg : g = W.heap.size) (b : Aside0 (w.heap[a]? = some o)) (h : w.heap[a]? = some o → W.heap[a]? = some o := by intro h_; (with_reducible repeat (first | refine blk_drewN ?_ _ | refine blk_drew ?_ | refine blk_alloc ?_ _)); exact h_) : Aside0 (a ≠ g) ∧ Aside0 (g ≠ a) := ⟨⟨by rw [hg]; exact Nat.ne_of_lt (blk_lt (h b.out))⟩, ⟨by rw [hg]; exact Nat.ne_of_gt (blk_lt (h b.out))⟩⟩
theorem og_ {α : Type} {P : Prop} [Decidable P] {a : Option α} {r : α} (h : (if P then a else none) = some r) : P ∧ a = some r := by
 by_cases c : P
 ·rw [if_pos c] at h; exact ⟨c, h⟩
 ·rw [if_neg c] at h; exact absurd h (by simp)
theorem on_ {α : Type} {P : Prop} [Decidable P] {a : Option α} {r : α} (h : (if P then none else a) = some r) : ¬P ∧ a = some r := by
 by_cases c : P
 ·rw [if_pos c] at h; exact absurd h (by simp)
 ·rw [if_neg c] at h; exact ⟨c, h⟩
theorem dt_ {P : Prop} [Decidable P] (h : P) : decide P = true := decide_eq_true h
theorem df_ {P : Prop} [Decidable P] (h : ¬P) : decide P = false := decide_eq_false h
theorem et_ {α : Type} [BEq α] [LawfulBEq α] {a b : α} (h : a = b) : (a == b) = true := beq_iff_eq.mpr h
theorem ef_ {α : Type} [BEq α] [LawfulBEq α] {a b : α} (h : a ≠ b) : (a == b) = false := beq_eq_false_iff_ne.mpr h
theorem nt_ {α : Type} [BEq α] [LawfulBEq α] {a b : α} (h : a ≠ b) : (a != b) = true := bne_iff_ne.mpr h
theorem nf_ {α : Type} [BEq α] [LawfulBEq α] {a b : α} (h : a = b) : (a != b) = false := bne_eq_false_iff_eq.mpr h
theorem gf_ {b : Bool} (h : ¬(b = true)) : b = false := Bool.eq_false_iff.mpr h
theorem hh_ {P Q E : Prop} (y : E) (H : P) (h : E → P → Q := by intro y_ H_; first | (rw [y_]; with_reducible exact H_) | (have H2_ := (Option.bind_some _ _).symm.trans H_; rw [y_]; with_reducible exact H2_) | (have H2_ := (Option.bind_some _ _).symm.trans H_; with_reducible exact H2_) | with_reducible exact H_ | (rw [y_]; exact H_) | exact H_) : Q := h y H
theorem si_ {α : Type} {a b : α} (h : some a = some b) : a = b := Option.some.inj h
theorem gt_ {P : Program} {ops : Array Oper} {Q : Exit → Act → World → Prop} {rest : List Oper} {o : Oper} {a : Act} {W : World} (N : Tmp) (h : wpList P ops Q (o :: rest) a W) (hN : o.dst = some N := by rfl) : wpList P ops Q (o :: rest) a W := h
theorem bo_ {P : Program} {ops : Array Oper} {Q : Exit → Act → World → Prop} {rest : List Oper} {o : Oper} {a : Act} {W : World} (N : Tmp) (cs : Array Value) (t : TypeId)
 (h : ∀ g, g = W.heap.size → ∀ w1, Aside0 (w1.heap[g]? = some (.cells cs t (0, 0))) → Below W.heap.size W w1 → wpList P ops Q rest (a.put o.dst (.pointer (some ⟨g, 0, none⟩))) w1) (hgd : o.guard = none := by rfl) (hd : o.dst = some N := by rfl)
 (hrun : (execOp a.eval o).run P W = .ok (.value (.pointer (some ⟨W.heap.size, 0, none⟩))) (W.alloc (.cells cs t (0, 0))) := by first | (go_simp; done) | (go_simp; rfl)) : wpList P ops Q (o :: rest) a W := be_ (N := N) (cs := cs) (t := t) (fun g hg w1 hx hb => h g hg w1 ⟨hx⟩ hb) hgd hd hrun
theorem rf_ {α : Type} {d : Kd α} {e base : Nat} {ok : Nat → Prop} {v : Value} {xs : List α} {w : World} (g i : Nat) (h : d.R e w base (fun k => ok k ∧ k ≠ g) v xs) (u : Value) : d.R e (w.setCell ⟨g, i, none⟩ u) base (fun k => ok k ∧ k ≠ g) v xs := Kd.R_far (p := ⟨g, i, none⟩) h (fun _ hk => hk.2) u
theorem bf_ {P Q R : Prop} (n : Aside0 R) (b : P) (h : R → P → Q := by intro n_ h_; refine blk_far ?_ n_ _; (with_reducible repeat (first | refine blk_drewN ?_ _ | refine blk_drew ?_ | refine blk_alloc ?_ _)); exact h_) : Q := h n.out b
theorem bg_ {P Q R : Prop} (n : Aside0 R) (b : Aside0 P) (h : R → P → Q := by intro n_ h_; (with_reducible repeat (first | refine blk_drewN ?_ _ | refine blk_drew ?_ | refine blk_alloc ?_ _)); refine blk_far ?_ n_ _; (with_reducible repeat (first | refine blk_drewN ?_ _ | refine blk_drew ?_ | refine blk_alloc ?_ _)); exact h_) : Aside0 Q := ⟨h n.out b.out⟩
theorem cb_ {α : Type} {d : Kd α} {w w1 : World} {Q : Prop} {A : Option Addr} {n : Nat} {xs : List α} (a : Aside0 (d.C w A n xs)) (b : Aside0 (Below w.heap.size w w1)) (h : d.C w1 A n xs → Q := by intro h_; repeat (first | exact h_ | (with_reducible refine Kd.C_alloc ?_ _) | (with_reducible refine Kd.C_drewN ?_ _) | (with_reducible refine Kd.C_drew ?_))) : Q := h (Kd.C_below a.out b.out)
theorem gd_ {P : Program} {ops : Array Oper} {Q : Exit → Act → World → Prop} {rest : List Oper} {oi : Oper} {a : Act} {w : World} (f : FuncId) (n : Tmp) {fn : Func} {as_ : Array Operand} {ts : Array TypeId} {v : Value} (hf : P.funcs[f]? = some fn) (args : Array Value)
 (h : Calls P f args w fun e w' => e = .returned v ∧ Drawn0 w w') (k : ∀ m, wpList P ops Q rest (a.put (some n) v) (w.drewN m)) (hop : oi.op = .call { callee := .value (.func f), args := as_, argTypes := ts } := by with_reducible rfl) (hd : oi.dst = some n := by with_unfolding_all rfl) (hg : oi.guard = none := by with_unfolding_all rfl) (hname : (fn.name == "runtime.NumGoroutine") = false := by kernel_rfl) (hb : fn.body.isSome = true := by with_unfolding_all rfl)
  (hargs : as_.map a.eval = args := by (try simp only [List.map_toArray, List.map_cons, List.map_nil]); first | done | with_unfolding_all rfl | (simp only [List.length_drop, List.length_take]; with_unfolding_all rfl)) : wpList P ops Q (oi :: rest) a w := gc_ f n hf args (h.mono fun _ _ ⟨e, m, x⟩ => ⟨v, e, by rw [x]; exact k m⟩) hop hd hg hname hb hargs
theorem gb_ {P : Program} {ops : Array Oper} {Q : Exit → Act → World → Prop} {rest : List Oper} {oi : Oper} {a : Act} {w W : World} {n0 : Nat} (f : FuncId) (n : Tmp) {fn : Func} {as_ : Array Operand} {ts : Array TypeId} {v : Value} (hf : P.funcs[f]? = some fn) (args : Array Value)
 (h : Calls P f args w fun e w' => e = .returned v ∧ Below n0 W w') (k : ∀ w', Below n0 W w' → wpList P ops Q rest (a.put (some n) v) w') (hop : oi.op = .call { callee := .value (.func f), args := as_, argTypes := ts } := by with_reducible rfl) (hd : oi.dst = some n := by with_unfolding_all rfl) (hg : oi.guard = none := by with_unfolding_all rfl) (hname : (fn.name == "runtime.NumGoroutine") = false := by kernel_rfl) (hb : fn.body.isSome = true := by with_unfolding_all rfl)
  (hargs : as_.map a.eval = args := by (try simp only [List.map_toArray, List.map_cons, List.map_nil]); first | done | with_unfolding_all rfl | (simp only [List.length_drop, List.length_take]; with_unfolding_all rfl)) : wpList P ops Q (oi :: rest) a w := gc_ f n hf args (h.mono fun _ w' ⟨e, b⟩ => ⟨v, e, k w' b⟩) hop hd hg hname hb hargs
abbrev tb11_0 : Array Bool := #[b0, b0, b0, b0, b0, b0, b0, b0, b0, b0, b0]
abbrev tb11_1 : Array Bool := #[b1, b0, b0, b0, b0, b0, b0, b0, b0, b0, b0]
abbrev tb11_1bf : Array Bool := #[b1, b1, b1, b1, b1, b1, b0, b1, b1, b0, b0]
abbrev tb11_1f : Array Bool := #[b1, b1, b1, b1, b1, b0, b0, b0, b0, b0, b0]
abbrev tb11_1ff : Array Bool := #[b1, b1, b1, b1, b1, b1, b1, b1, b1, b0, b0]
abbrev tb11_3f : Array Bool := #[b1, b1, b1, b1, b1, b1, b0, b0, b0, b0, b0]
abbrev tb11_3ff : Array Bool := #[b1, b1, b1, b1, b1, b1, b1, b1, b1, b1, b0]
abbrev tb11_5 : Array Bool := #[b1, b0, b1, b0, b0, b0, b0, b0, b0, b0, b0]
abbrev tb11_7 : Array Bool := #[b1, b1, b1, b0, b0, b0, b0, b0, b0, b0, b0]
abbrev tb11_7f : Array Bool := #[b1, b1, b1, b1, b1, b1, b1, b0, b0, b0, b0]
abbrev tb11_7ff : Array Bool := #[b1, b1, b1, b1, b1, b1, b1, b1, b1, b1, b1]
abbrev tb11_bf : Array Bool := #[b1, b1, b1, b1, b1, b1, b0, b1, b0, b0, b0]
abbrev tb11_f : Array Bool := #[b1, b1, b1, b1, b0, b0, b0, b0, b0, b0, b0]
abbrev tb11_ff : Array Bool := #[b1, b1, b1, b1, b1, b1, b1, b1, b0, b0, b0]
abbrev tb30_0 : Array Bool := #[b0, b0, b0, b0, b0, b0, b0, b0, b0, b0, b0, b0, b0, b0, b0, b0, b0, b0, b0, b0, b0, b0, b0, b0, b0, b0, b0, b0, b0, b0]
abbrev tb30_1 : Array Bool := #[b1, b0, b0, b0, b0, b0, b0, b0, b0, b0, b0, b0, b0, b0, b0, b0, b0, b0, b0, b0, b0, b0, b0, b0, b0, b0, b0, b0, b0, b0]
abbrev tb30_1f : Array Bool := #[b1, b1, b1, b1, b1, b0, b0, b0, b0, b0, b0, b0, b0, b0, b0, b0, b0, b0, b0, b0, b0, b0, b0, b0, b0, b0, b0, b0, b0, b0]
abbrev tb30_1ff : Array Bool := #[b1, b1, b1, b1, b1, b1, b1, b1, b1, b0, b0, b0, b0, b0, b0, b0, b0, b0, b0, b0, b0, b0, b0, b0, b0, b0, b0, b0, b0, b0]
abbrev tb30_1fff : Array Bool := #[b1, b1, b1, b1, b1, b1, b1, b1, b1, b1, b1, b1, b1, b0, b0, b0, b0, b0, b0, b0, b0, b0, b0, b0, b0, b0, b0, b0, b0, b0]
abbrev tb30_1ffff : Array Bool := #[b1, b1, b1, b1, b1, b1, b1, b1, b1, b1, b1, b1, b1, b1, b1, b1, b1, b0, b0, b0, b0, b0, b0, b0, b0, b0, b0, b0, b0, b0]
abbrev tb30_1fffff : Array Bool := #[b1, b1, b1, b1, b1, b1, b1, b1, b1, b1, b1, b1, b1, b1, b1, b1, b1, b1, b1, b1, b1, b0, b0, b0, b0, b0, b0, b0, b0, b0]
abbrev tb30_1ffffff : Array Bool := #[b1, b1, b1, b1, b1, b1, b1, b1, b1, b1, b1, b1, b1, b1, b1, b1, b1, b1, b1, b1, b1, b1, b1, b1, b1, b0, b0, b0, b0, b0]
abbrev tb30_1fffffff : Array Bool := #[b1, b1, b1, b1, b1, b1, b1, b1, b1, b1, b1, b1, b1, b1, b1, b1, b1, b1, b1, b1, b1, b1, b1, b1, b1, b1, b1, b1, b1, b0]
abbrev tb30_3 : Array Bool := #[b1, b1, b0, b0, b0, b0, b0, b0, b0, b0, b0, b0, b0, b0, b0, b0, b0, b0, b0, b0, b0, b0, b0, b0, b0, b0, b0, b0, b0, b0]
abbrev tb30_3f : Array Bool := #[b1, b1, b1, b1, b1, b1, b0, b0, b0, b0, b0, b0, b0, b0, b0, b0, b0, b0, b0, b0, b0, b0, b0, b0, b0, b0, b0, b0, b0, b0]
abbrev tb30_3ff : Array Bool := #[b1, b1, b1, b1, b1, b1, b1, b1, b1, b1, b0, b0, b0, b0, b0, b0, b0, b0, b0, b0, b0, b0, b0, b0, b0, b0, b0, b0, b0, b0]
abbrev tb30_3fff : Array Bool := #[b1, b1, b1, b1, b1, b1, b1, b1, b1, b1, b1, b1, b1, b1, b0, b0, b0, b0, b0, b0, b0, b0, b0, b0, b0, b0, b0, b0, b0, b0]
abbrev tb30_3ffff : Array Bool := #[b1, b1, b1, b1, b1, b1, b1, b1, b1, b1, b1, b1, b1, b1, b1, b1, b1, b1, b0, b0, b0, b0, b0, b0, b0, b0, b0, b0, b0, b0]
abbrev tb30_3fffff : Array Bool := #[b1, b1, b1, b1, b1, b1, b1, b1, b1, b1, b1, b1, b1, b1, b1, b1, b1, b1, b1, b1, b1, b1, b0, b0, b0, b0, b0, b0, b0, b0]
abbrev tb30_3ffffff : Array Bool := #[b1, b1, b1, b1, b1, b1, b1, b1, b1, b1, b1, b1, b1, b1, b1, b1, b1, b1, b1, b1, b1, b1, b1, b1, b1, b1, b0, b0, b0, b0]
abbrev tb30_3fffffff : Array Bool := #[b1, b1, b1, b1, b1, b1, b1, b1, b1, b1, b1, b1, b1, b1, b1, b1, b1, b1, b1, b1, b1, b1, b1, b1, b1, b1, b1, b1, b1, b1]
abbrev tb30_7 : Array Bool := #[b1, b1, b1, b0, b0, b0, b0, b0, b0, b0, b0, b0, b0, b0, b0, b0, b0, b0, b0, b0, b0, b0, b0, b0, b0, b0, b0, b0, b0, b0]
abbrev tb30_7f : Array Bool := #[b1, b1, b1, b1, b1, b1, b1, b0, b0, b0, b0, b0, b0, b0, b0, b0, b0, b0, b0, b0, b0, b0, b0, b0, b0, b0, b0, b0, b0, b0]
abbrev tb30_7ff : Array Bool := #[b1, b1, b1, b1, b1, b1, b1, b1, b1, b1, b1, b0, b0, b0, b0, b0, b0, b0, b0, b0, b0, b0, b0, b0, b0, b0, b0, b0, b0, b0]
abbrev tb30_7fff : Array Bool := #[b1, b1, b1, b1, b1, b1, b1, b1, b1, b1, b1, b1, b1, b1, b1, b0, b0, b0, b0, b0, b0, b0, b0, b0, b0, b0, b0, b0, b0, b0]
abbrev tb30_7ffff : Array Bool := #[b1, b1, b1, b1, b1, b1, b1, b1, b1, b1, b1, b1, b1, b1, b1, b1, b1, b1, b1, b0, b0, b0, b0, b0, b0, b0, b0, b0, b0, b0]
abbrev tb30_7fffff : Array Bool := #[b1, b1, b1, b1, b1, b1, b1, b1, b1, b1, b1, b1, b1, b1, b1, b1, b1, b1, b1, b1, b1, b1, b1, b0, b0, b0, b0, b0, b0, b0]
abbrev tb30_7ffffff : Array Bool := #[b1, b1, b1, b1, b1, b1, b1, b1, b1, b1, b1, b1, b1, b1, b1, b1, b1, b1, b1, b1, b1, b1, b1, b1, b1, b1, b1, b0, b0, b0]
abbrev tb30_bf : Array Bool := #[b1, b1, b1, b1, b1, b1, b0, b1, b0, b0, b0, b0, b0, b0, b0, b0, b0, b0, b0, b0, b0, b0, b0, b0, b0, b0, b0, b0, b0, b0]
abbrev tb30_f : Array Bool := #[b1, b1, b1, b1, b0, b0, b0, b0, b0, b0, b0, b0, b0, b0, b0, b0, b0, b0, b0, b0, b0, b0, b0, b0, b0, b0, b0, b0, b0, b0]
abbrev tb30_ff : Array Bool := #[b1, b1, b1, b1, b1, b1, b1, b1, b0, b0, b0, b0, b0, b0, b0, b0, b0, b0, b0, b0, b0, b0, b0, b0, b0, b0, b0, b0, b0, b0]
abbrev tb30_fff : Array Bool := #[b1, b1, b1, b1, b1, b1, b1, b1, b1, b1, b1, b1, b0, b0, b0, b0, b0, b0, b0, b0, b0, b0, b0, b0, b0, b0, b0, b0, b0, b0]
abbrev tb30_ffff : Array Bool := #[b1, b1, b1, b1, b1, b1, b1, b1, b1, b1, b1, b1, b1, b1, b1, b1, b0, b0, b0, b0, b0, b0, b0, b0, b0, b0, b0, b0, b0, b0]
abbrev tb30_fffff : Array Bool := #[b1, b1, b1, b1, b1, b1, b1, b1, b1, b1, b1, b1, b1, b1, b1, b1, b1, b1, b1, b1, b0, b0, b0, b0, b0, b0, b0, b0, b0, b0]
abbrev tb30_ffffff : Array Bool := #[b1, b1, b1, b1, b1, b1, b1, b1, b1, b1, b1, b1, b1, b1, b1, b1, b1, b1, b1, b1, b1, b1, b1, b1, b0, b0, b0, b0, b0, b0]
abbrev tb30_fffffff : Array Bool := #[b1, b1, b1, b1, b1, b1, b1, b1, b1, b1, b1, b1, b1, b1, b1, b1, b1, b1, b1, b1, b1, b1, b1, b1, b1, b1, b1, b1, b0, b0]
abbrev tb9_0 : Array Bool := #[b0, b0, b0, b0, b0, b0, b0, b0, b0]
abbrev tb9_1 : Array Bool := #[b1, b0, b0, b0, b0, b0, b0, b0, b0]
abbrev tb9_15 : Array Bool := #[b1, b0, b1, b0, b1, b0, b0, b0, b0]
abbrev tb9_17 : Array Bool := #[b1, b1, b1, b0, b1, b0, b0, b0, b0]
abbrev tb9_1ff : Array Bool := #[b1, b1, b1, b1, b1, b1, b1, b1, b1]
abbrev tb9_37 : Array Bool := #[b1, b1, b1, b0, b1, b1, b0, b0, b0]
abbrev tb9_3f : Array Bool := #[b1, b1, b1, b1, b1, b1, b0, b0, b0]
abbrev tb9_5 : Array Bool := #[b1, b0, b1, b0, b0, b0, b0, b0, b0]
abbrev tb9_7f : Array Bool := #[b1, b1, b1, b1, b1, b1, b1, b0, b0]
abbrev tb9_b7 : Array Bool := #[b1, b1, b1, b0, b1, b1, b0, b1, b0]
abbrev tb9_bf : Array Bool := #[b1, b1, b1, b1, b1, b1, b0, b1, b0]
abbrev tb9_ff : Array Bool := #[b1, b1, b1, b1, b1, b1, b1, b1, b0]
abbrev tb21_0 : Array Bool := #[b0, b0, b0, b0, b0, b0, b0, b0, b0, b0, b0, b0, b0, b0, b0, b0, b0, b0, b0, b0, b0]
abbrev tb21_1 : Array Bool := #[b1, b0, b0, b0, b0, b0, b0, b0, b0, b0, b0, b0, b0, b0, b0, b0, b0, b0, b0, b0, b0]
abbrev tb21_1fff : Array Bool := #[b1, b1, b1, b1, b1, b1, b1, b1, b1, b1, b1, b1, b1, b0, b0, b0, b0, b0, b0, b0, b0]
abbrev tb21_1ffff : Array Bool := #[b1, b1, b1, b1, b1, b1, b1, b1, b1, b1, b1, b1, b1, b1, b1, b1, b1, b0, b0, b0, b0]
abbrev tb21_1fffff : Array Bool := #[b1, b1, b1, b1, b1, b1, b1, b1, b1, b1, b1, b1, b1, b1, b1, b1, b1, b1, b1, b1, b1]
abbrev tb21_20f : Array Bool := #[b1, b1, b1, b1, b0, b0, b0, b0, b0, b1, b0, b0, b0, b0, b0, b0, b0, b0, b0, b0, b0]
abbrev tb21_3 : Array Bool := #[b1, b1, b0, b0, b0, b0, b0, b0, b0, b0, b0, b0, b0, b0, b0, b0, b0, b0, b0, b0, b0]
abbrev tb21_3fff : Array Bool := #[b1, b1, b1, b1, b1, b1, b1, b1, b1, b1, b1, b1, b1, b1, b0, b0, b0, b0, b0, b0, b0]
abbrev tb21_3ffff : Array Bool := #[b1, b1, b1, b1, b1, b1, b1, b1, b1, b1, b1, b1, b1, b1, b1, b1, b1, b1, b0, b0, b0]
abbrev tb21_60f : Array Bool := #[b1, b1, b1, b1, b0, b0, b0, b0, b0, b1, b1, b0, b0, b0, b0, b0, b0, b0, b0, b0, b0]
abbrev tb21_7 : Array Bool := #[b1, b1, b1, b0, b0, b0, b0, b0, b0, b0, b0, b0, b0, b0, b0, b0, b0, b0, b0, b0, b0]
abbrev tb21_7fff : Array Bool := #[b1, b1, b1, b1, b1, b1, b1, b1, b1, b1, b1, b1, b1, b1, b1, b0, b0, b0, b0, b0, b0]
abbrev tb21_7ffff : Array Bool := #[b1, b1, b1, b1, b1, b1, b1, b1, b1, b1, b1, b1, b1, b1, b1, b1, b1, b1, b1, b0, b0]
abbrev tb21_e0f : Array Bool := #[b1, b1, b1, b1, b0, b0, b0, b0, b0, b1, b1, b1, b0, b0, b0, b0, b0, b0, b0, b0, b0]
abbrev tb21_e1f : Array Bool := #[b1, b1, b1, b1, b1, b0, b0, b0, b0, b1, b1, b1, b0, b0, b0, b0, b0, b0, b0, b0, b0]
abbrev tb21_e3f : Array Bool := #[b1, b1, b1, b1, b1, b1, b0, b0, b0, b1, b1, b1, b0, b0, b0, b0, b0, b0, b0, b0, b0]
abbrev tb21_e7f : Array Bool := #[b1, b1, b1, b1, b1, b1, b1, b0, b0, b1, b1, b1, b0, b0, b0, b0, b0, b0, b0, b0, b0]
abbrev tb21_eff : Array Bool := #[b1, b1, b1, b1, b1, b1, b1, b1, b0, b1, b1, b1, b0, b0, b0, b0, b0, b0, b0, b0, b0]
abbrev tb21_f : Array Bool := #[b1, b1, b1, b1, b0, b0, b0, b0, b0, b0, b0, b0, b0, b0, b0, b0, b0, b0, b0, b0, b0]
abbrev tb21_fff : Array Bool := #[b1, b1, b1, b1, b1, b1, b1, b1, b1, b1, b1, b1, b0, b0, b0, b0, b0, b0, b0, b0, b0]
abbrev tb21_ffff : Array Bool := #[b1, b1, b1, b1, b1, b1, b1, b1, b1, b1, b1, b1, b1, b1, b1, b1, b0, b0, b0, b0, b0]
abbrev tb21_fffff : Array Bool := #[b1, b1, b1, b1, b1, b1, b1, b1, b1, b1, b1, b1, b1, b1, b1, b1, b1, b1, b1, b1, b0]
abbrev tb23_0 : Array Bool := #[b0, b0, b0, b0, b0, b0, b0, b0, b0, b0, b0, b0, b0, b0, b0, b0, b0, b0, b0, b0, b0, b0, b0]
abbrev tb23_1 : Array Bool := #[b1, b0, b0, b0, b0, b0, b0, b0, b0, b0, b0, b0, b0, b0, b0, b0, b0, b0, b0, b0, b0, b0, b0]
abbrev tb23_1f : Array Bool := #[b1, b1, b1, b1, b1, b0, b0, b0, b0, b0, b0, b0, b0, b0, b0, b0, b0, b0, b0, b0, b0, b0, b0]
abbrev tb23_1ff : Array Bool := #[b1, b1, b1, b1, b1, b1, b1, b1, b1, b0, b0, b0, b0, b0, b0, b0, b0, b0, b0, b0, b0, b0, b0]
abbrev tb23_1fff : Array Bool := #[b1, b1, b1, b1, b1, b1, b1, b1, b1, b1, b1, b1, b1, b0, b0, b0, b0, b0, b0, b0, b0, b0, b0]
abbrev tb23_1ffff : Array Bool := #[b1, b1, b1, b1, b1, b1, b1, b1, b1, b1, b1, b1, b1, b1, b1, b1, b1, b0, b0, b0, b0, b0, b0]
abbrev tb23_1fffff : Array Bool := #[b1, b1, b1, b1, b1, b1, b1, b1, b1, b1, b1, b1, b1, b1, b1, b1, b1, b1, b1, b1, b1, b0, b0]
abbrev tb23_27fff : Array Bool := #[b1, b1, b1, b1, b1, b1, b1, b1, b1, b1, b1, b1, b1, b1, b1, b0, b0, b1, b0, b0, b0, b0, b0]
abbrev tb23_2ffff : Array Bool := #[b1, b1, b1, b1, b1, b1, b1, b1, b1, b1, b1, b1, b1, b1, b1, b1, b0, b1, b0, b0, b0, b0, b0]
abbrev tb23_3 : Array Bool := #[b1, b1, b0, b0, b0, b0, b0, b0, b0, b0, b0, b0, b0, b0, b0, b0, b0, b0, b0, b0, b0, b0, b0]
abbrev tb23_3f : Array Bool := #[b1, b1, b1, b1, b1, b1, b0, b0, b0, b0, b0, b0, b0, b0, b0, b0, b0, b0, b0, b0, b0, b0, b0]
abbrev tb23_3ff : Array Bool := #[b1, b1, b1, b1, b1, b1, b1, b1, b1, b1, b0, b0, b0, b0, b0, b0, b0, b0, b0, b0, b0, b0, b0]
abbrev tb23_3fff : Array Bool := #[b1, b1, b1, b1, b1, b1, b1, b1, b1, b1, b1, b1, b1, b1, b0, b0, b0, b0, b0, b0, b0, b0, b0]
abbrev tb23_3ffff : Array Bool := #[b1, b1, b1, b1, b1, b1, b1, b1, b1, b1, b1, b1, b1, b1, b1, b1, b1, b1, b0, b0, b0, b0, b0]
abbrev tb23_3fffff : Array Bool := #[b1, b1, b1, b1, b1, b1, b1, b1, b1, b1, b1, b1, b1, b1, b1, b1, b1, b1, b1, b1, b1, b1, b0]
abbrev tb23_7 : Array Bool := #[b1, b1, b1, b0, b0, b0, b0, b0, b0, b0, b0, b0, b0, b0, b0, b0, b0, b0, b0, b0, b0, b0, b0]
abbrev tb23_7f : Array Bool := #[b1, b1, b1, b1, b1, b1, b1, b0, b0, b0, b0, b0, b0, b0, b0, b0, b0, b0, b0, b0, b0, b0, b0]
abbrev tb23_7ff : Array Bool := #[b1, b1, b1, b1, b1, b1, b1, b1, b1, b1, b1, b0, b0, b0, b0, b0, b0, b0, b0, b0, b0, b0, b0]
abbrev tb23_7fff : Array Bool := #[b1, b1, b1, b1, b1, b1, b1, b1, b1, b1, b1, b1, b1, b1, b1, b0, b0, b0, b0, b0, b0, b0, b0]
abbrev tb23_7ffff : Array Bool := #[b1, b1, b1, b1, b1, b1, b1, b1, b1, b1, b1, b1, b1, b1, b1, b1, b1, b1, b1, b0, b0, b0, b0]
abbrev tb23_7fffff : Array Bool := #[b1, b1, b1, b1, b1, b1, b1, b1, b1, b1, b1, b1, b1, b1, b1, b1, b1, b1, b1, b1, b1, b1, b1]
abbrev tb23_f : Array Bool := #[b1, b1, b1, b1, b0, b0, b0, b0, b0, b0, b0, b0, b0, b0, b0, b0, b0, b0, b0, b0, b0, b0, b0]
abbrev tb23_ff : Array Bool := #[b1, b1, b1, b1, b1, b1, b1, b1, b0, b0, b0, b0, b0, b0, b0, b0, b0, b0, b0, b0, b0, b0, b0]
abbrev tb23_fff : Array Bool := #[b1, b1, b1, b1, b1, b1, b1, b1, b1, b1, b1, b1, b0, b0, b0, b0, b0, b0, b0, b0, b0, b0, b0]
abbrev tb23_ffff : Array Bool := #[b1, b1, b1, b1, b1, b1, b1, b1, b1, b1, b1, b1, b1, b1, b1, b1, b0, b0, b0, b0, b0, b0, b0]
abbrev tb23_fffff : Array Bool := #[b1, b1, b1, b1, b1, b1, b1, b1, b1, b1, b1, b1, b1, b1, b1, b1, b1, b1, b1, b1, b0, b0, b0]
abbrev tb22_0 : Array Bool := #[b0, b0, b0, b0, b0, b0, b0, b0, b0, b0, b0, b0, b0, b0, b0, b0, b0, b0, b0, b0, b0, b0]
abbrev tb22_1 : Array Bool := #[b1, b0, b0, b0, b0, b0, b0, b0, b0, b0, b0, b0, b0, b0, b0, b0, b0, b0, b0, b0, b0, b0]
abbrev tb22_17ff : Array Bool := #[b1, b1, b1, b1, b1, b1, b1, b1, b1, b1, b1, b0, b1, b0, b0, b0, b0, b0, b0, b0, b0, b0]
abbrev tb22_1f : Array Bool := #[b1, b1, b1, b1, b1, b0, b0, b0, b0, b0, b0, b0, b0, b0, b0, b0, b0, b0, b0, b0, b0, b0]
abbrev tb22_1ff : Array Bool := #[b1, b1, b1, b1, b1, b1, b1, b1, b1, b0, b0, b0, b0, b0, b0, b0, b0, b0, b0, b0, b0, b0]
abbrev tb22_1fff : Array Bool := #[b1, b1, b1, b1, b1, b1, b1, b1, b1, b1, b1, b1, b1, b0, b0, b0, b0, b0, b0, b0, b0, b0]
abbrev tb22_1ffff : Array Bool := #[b1, b1, b1, b1, b1, b1, b1, b1, b1, b1, b1, b1, b1, b1, b1, b1, b1, b0, b0, b0, b0, b0]
abbrev tb22_1fffff : Array Bool := #[b1, b1, b1, b1, b1, b1, b1, b1, b1, b1, b1, b1, b1, b1, b1, b1, b1, b1, b1, b1, b1, b0]
abbrev tb22_3f : Array Bool := #[b1, b1, b1, b1, b1, b1, b0, b0, b0, b0, b0, b0, b0, b0, b0, b0, b0, b0, b0, b0, b0, b0]
abbrev tb22_3ff : Array Bool := #[b1, b1, b1, b1, b1, b1, b1, b1, b1, b1, b0, b0, b0, b0, b0, b0, b0, b0, b0, b0, b0, b0]
abbrev tb22_3fff : Array Bool := #[b1, b1, b1, b1, b1, b1, b1, b1, b1, b1, b1, b1, b1, b1, b0, b0, b0, b0, b0, b0, b0, b0]
abbrev tb22_3ffff : Array Bool := #[b1, b1, b1, b1, b1, b1, b1, b1, b1, b1, b1, b1, b1, b1, b1, b1, b1, b1, b0, b0, b0, b0]
abbrev tb22_3fffff : Array Bool := #[b1, b1, b1, b1, b1, b1, b1, b1, b1, b1, b1, b1, b1, b1, b1, b1, b1, b1, b1, b1, b1, b1]
abbrev tb22_5 : Array Bool := #[b1, b0, b1, b0, b0, b0, b0, b0, b0, b0, b0, b0, b0, b0, b0, b0, b0, b0, b0, b0, b0, b0]
abbrev tb22_57ff : Array Bool := #[b1, b1, b1, b1, b1, b1, b1, b1, b1, b1, b1, b0, b1, b0, b1, b0, b0, b0, b0, b0, b0, b0]
abbrev tb22_7 : Array Bool := #[b1, b1, b1, b0, b0, b0, b0, b0, b0, b0, b0, b0, b0, b0, b0, b0, b0, b0, b0, b0, b0, b0]
abbrev tb22_7f : Array Bool := #[b1, b1, b1, b1, b1, b1, b1, b0, b0, b0, b0, b0, b0, b0, b0, b0, b0, b0, b0, b0, b0, b0]
abbrev tb22_7ff : Array Bool := #[b1, b1, b1, b1, b1, b1, b1, b1, b1, b1, b1, b0, b0, b0, b0, b0, b0, b0, b0, b0, b0, b0]
abbrev tb22_7fff : Array Bool := #[b1, b1, b1, b1, b1, b1, b1, b1, b1, b1, b1, b1, b1, b1, b1, b0, b0, b0, b0, b0, b0, b0]
abbrev tb22_7ffff : Array Bool := #[b1, b1, b1, b1, b1, b1, b1, b1, b1, b1, b1, b1, b1, b1, b1, b1, b1, b1, b1, b0, b0, b0]
abbrev tb22_d7ff : Array Bool := #[b1, b1, b1, b1, b1, b1, b1, b1, b1, b1, b1, b0, b1, b0, b1, b1, b0, b0, b0, b0, b0, b0]
abbrev tb22_dfff : Array Bool := #[b1, b1, b1, b1, b1, b1, b1, b1, b1, b1, b1, b1, b1, b0, b1, b1, b0, b0, b0, b0, b0, b0]
abbrev tb22_f : Array Bool := #[b1, b1, b1, b1, b0, b0, b0, b0, b0, b0, b0, b0, b0, b0, b0, b0, b0, b0, b0, b0, b0, b0]
abbrev tb22_ff : Array Bool := #[b1, b1, b1, b1, b1, b1, b1, b1, b0, b0, b0, b0, b0, b0, b0, b0, b0, b0, b0, b0, b0, b0]
abbrev tb22_fff : Array Bool := #[b1, b1, b1, b1, b1, b1, b1, b1, b1, b1, b1, b1, b0, b0, b0, b0, b0, b0, b0, b0, b0, b0]
abbrev tb22_ffff : Array Bool := #[b1, b1, b1, b1, b1, b1, b1, b1, b1, b1, b1, b1, b1, b1, b1, b1, b0, b0, b0, b0, b0, b0]
abbrev tb22_fffff : Array Bool := #[b1, b1, b1, b1, b1, b1, b1, b1, b1, b1, b1, b1, b1, b1, b1, b1, b1, b1, b1, b1, b0, b0]
abbrev tb13_0 : Array Bool := #[b0, b0, b0, b0, b0, b0, b0, b0, b0, b0, b0, b0, b0]
abbrev tb13_1 : Array Bool := #[b1, b0, b0, b0, b0, b0, b0, b0, b0, b0, b0, b0, b0]
abbrev tb13_17f : Array Bool := #[b1, b1, b1, b1, b1, b1, b1, b0, b1, b0, b0, b0, b0]
abbrev tb13_1f : Array Bool := #[b1, b1, b1, b1, b1, b0, b0, b0, b0, b0, b0, b0, b0]
abbrev tb13_1ff : Array Bool := #[b1, b1, b1, b1, b1, b1, b1, b1, b1, b0, b0, b0, b0]
abbrev tb13_1fff : Array Bool := #[b1, b1, b1, b1, b1, b1, b1, b1, b1, b1, b1, b1, b1]
abbrev tb13_3f : Array Bool := #[b1, b1, b1, b1, b1, b1, b0, b0, b0, b0, b0, b0, b0]
abbrev tb13_3ff : Array Bool := #[b1, b1, b1, b1, b1, b1, b1, b1, b1, b1, b0, b0, b0]
abbrev tb13_5 : Array Bool := #[b1, b0, b1, b0, b0, b0, b0, b0, b0, b0, b0, b0, b0]
abbrev tb13_7 : Array Bool := #[b1, b1, b1, b0, b0, b0, b0, b0, b0, b0, b0, b0, b0]
abbrev tb13_7f : Array Bool := #[b1, b1, b1, b1, b1, b1, b1, b0, b0, b0, b0, b0, b0]
abbrev tb13_7ff : Array Bool := #[b1, b1, b1, b1, b1, b1, b1, b1, b1, b1, b1, b0, b0]
abbrev tb13_f : Array Bool := #[b1, b1, b1, b1, b0, b0, b0, b0, b0, b0, b0, b0, b0]
abbrev tb13_ff : Array Bool := #[b1, b1, b1, b1, b1, b1, b1, b1, b0, b0, b0, b0, b0]
abbrev tb13_fff : Array Bool := #[b1, b1, b1, b1, b1, b1, b1, b1, b1, b1, b1, b1, b0]
end Go.Proofs.YtohfefkjcnbejaaGreatDoor.QFnExactStepsLeft
