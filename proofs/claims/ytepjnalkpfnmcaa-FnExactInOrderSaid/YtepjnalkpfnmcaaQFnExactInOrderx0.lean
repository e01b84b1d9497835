-- by my own printer (myprint.py, over the kit's print.py)
import Derived.Test.YtepjnalkpfnmcaaProg
import Derived.Below
import Derived.Deep.Draws
import Derived.Deep.AppendLies
import Derived.Maps.AppendAt
import Derived.OwnWalk
import Derived.Laws.BytesArg
import Derived.Laws.MakeOwn
import Derived.Laws.OwnMore
import Derived.Deep.OwnRows
import Derived.Tactics
import Derived.Lib.ConvBytes
import Derived.Laws.Slices
import Derived.WalkKit
import Derived.KernelRfl
import Derived.RowKit3
import Derived.Deep.LoopGhost
import Derived.Deep.QuietTactic
import Derived.BigQuiet
import Derived.WideLaws
import Derived.Deep.DeepCutAuto
import Derived.Deep.CutBlock
import Derived.Deep.RegionHeld3
import Derived.Laws.Rows
import Derived.Lib.AppendStr
import Derived.ArgAppend
import Derived.Laws.IdiomCopy
import Derived.OrdersHeld
import Derived.Laws.BitsLemmas
import Derived.RowKit
import Derived.Lib.SortBridge
import Derived.Test.YtepjnalkpfnmcaaStableD
import Derived.Test.YtepjnalkpfnmcaaVFnExactInOrderWGuardInvWordsMore
namespace Go.Proofs.Ytepjnalkpfnmcaa.QFnExactInOrder
open Go.RowKit Go.Proofs.YtepjnalkpfnmcaaW.PrintWords Go.Proofs.YtepjnalkpfnmcaaW.PrintLast Go.Proofs.YtepjnalkpfnmcaaW.PrintMore
attribute [local go_sem] max2_int min2_int max_two min_two max_three min_three max_four min_four   -- for this text's walks alone
set_option linter.unusedVariables false
set_option linter.unusedSimpArgs false
def errW : Option Int → Value
 | none => .nilIface
 | some c => .iface 0 (.int .i64 c)
theorem errW_none : errW none = .nilIface := rfl
theorem errW_some (c : Int) : errW (some c) = .iface 0 (.int .i64 c) := rfl
theorem info3 : (Try.prog.info? 3).map (fun i => (i.zero, i.size, i.bytes)) = some (some (.int .i64 0), 1, 8) := by kernel_rfl
theorem info5 : (Try.prog.info? 5).map (fun i => (i.zero, i.size, i.bytes)) = some (some (.int .u8 0), 1, 1) := by kernel_rfl
theorem info43 : (Try.prog.info? 43).map (fun i => (i.zero, i.size, i.bytes)) = some (some (.agg #[(.string ⟨#[]⟩), (.int .i64 0), (.int .i64 0), (.int .i64 0), (.int .i64 0), (.slice none 0 0), (.int .i64 0), (.int .i64 0), (.slice none 0 0), (.slice none 0 0), (.slice none 0 0)]), 11, 160) := by kernel_rfl
theorem info74 : (Try.prog.info? 74).map (fun i => (i.zero, i.size, i.bytes)) = some (some (.agg #[(.string ⟨#[]⟩), (.string ⟨#[]⟩), (.slice none 0 0)]), 3, 56) := by kernel_rfl
theorem info93 : (Try.prog.info? 93).map (fun i => (i.zero, i.size, i.bytes)) = some (some (.agg #[(.string ⟨#[]⟩), (.int .i64 0), (.int .i64 0)]), 3, 32) := by kernel_rfl
theorem info121 : (Try.prog.info? 121).map (fun i => (i.zero, i.size, i.bytes)) = some (some (.agg #[(.int .i64 0), (.slice none 0 0)]), 2, 32) := by kernel_rfl
theorem info126 : (Try.prog.info? 126).map (fun i => (i.zero, i.size, i.bytes)) = some (some (.agg #[(.slice none 0 0), (.int .i64 0), (.slice none 0 0), (.int .i64 0), (.int .i64 0), (.int .i64 0), (.int .i64 0), (.int .i64 0), (.slice none 0 0)]), 9, 120) := by kernel_rfl
-- the values' own types
/-! #### struct type 89 -/
structure S89 where
 f0 : ByteArray
 f1 : Int
 f2 : Int
def z89 : S89 := ⟨(⟨#[]⟩ : ByteArray), (0 : Int), (0 : Int)⟩
def k89 : Kd S89 := Kd.iso (Kd.pair Kd.string (Kd.pair (Kd.int .i64) (Kd.int .i64))) (fun x : S89 => (x.f0, x.f1, x.f2))
theorem k89_open {w : World} {x : S89} {cs : List Value} (h : k89.K w x cs) : cs = [.string x.f0, .int .i64 x.f1, .int .i64 x.f2] := by
 obtain ⟨_, _, rfl, rfl, ⟨_, _, rfl, rfl, rfl⟩⟩ := h
 exact rfl
def rd_T89 (xs : List S89) (i : Int) : S89 := xs.getD i.toNat z89
theorem at_T89 {w : World} {A : Option Addr} {n : Nat} {xs : List S89} (h : Kd.C k89 w A n xs) (i : Int) (h0 : 0 ≤ i) (h1 : i < n) : ∃ ad , A = some ad ∧ w.cell? (ad.add (i.toNat * 3)) = some (.string (rd_T89 xs i).f0) ∧ w.cell? ⟨(ad.add (i.toNat * 3)).block, (ad.add (i.toNat * 3)).off + 1, none⟩ = some (.int .i64 (rd_T89 xs i).f1) ∧ w.cell? ⟨(ad.add (i.toNat * 3)).block, (ad.add (i.toNat * 3)).off + 2, none⟩ = some (.int .i64 (rd_T89 xs i).f2) := by
 obtain ⟨ad, c, e, _, hK, hc0⟩ := Kd.C_get h z89 i h0 h1
 have hc : ∀ j u, c[j]? = some u → w.cell? (ad.add (i.toNat * 3 + j)) = some u := hc0
 obtain rfl := k89_open hK
 exact ⟨ad, e, hc 0 _ rfl, by rw [← add_field _ _ 1 (by omega)]; exact hc 1 _ rfl, by rw [← add_field _ _ 2 (by omega)]; exact hc 2 _ rfl⟩
def rd_L4 (xs : List (List Int)) (i : Int) : (List Int) := xs.getD i.toNat ([] : List Int)
/-! #### struct type 70 -/
structure S70 where
 f0 : ByteArray
 f1 : ByteArray
 f2 : (List Int)
def z70 : S70 := ⟨(⟨#[]⟩ : ByteArray), (⟨#[]⟩ : ByteArray), ([] : List Int)⟩
def k70 : Kd S70 := Kd.iso (Kd.pair Kd.string (Kd.pair Kd.string (Kd.slice 5 (Kd.int .u8)))) (fun x : S70 => (x.f0, x.f1, x.f2))
theorem k70_open {w : World} {x : S70} {cs : List Value} (h : k70.K w x cs) : ∃ A2 c2, cs = [.string x.f0, .string x.f1, .slice A2 x.f2.length c2] ∧ x.f2.length ≤ c2 ∧ (Kd.int .u8).C w A2 x.f2.length x.f2 := by
 obtain ⟨_, _, rfl, rfl, ⟨_, _, rfl, rfl, ⟨A2, c2, rfl, l2, g2⟩⟩⟩ := h
 exact ⟨A2, c2, rfl, l2, g2⟩
def rd_T70 (xs : List S70) (i : Int) : S70 := xs.getD i.toNat z70
theorem at_T70 {w : World} {A : Option Addr} {n : Nat} {xs : List S70} (h : Kd.C k70 w A n xs) (i : Int) (h0 : 0 ≤ i) (h1 : i < n) : ∃ ad A2 c2, A = some ad ∧ w.cell? (ad.add (i.toNat * 3)) = some (.string (rd_T70 xs i).f0) ∧ w.cell? ⟨(ad.add (i.toNat * 3)).block, (ad.add (i.toNat * 3)).off + 1, none⟩ = some (.string (rd_T70 xs i).f1) ∧ w.cell? ⟨(ad.add (i.toNat * 3)).block, (ad.add (i.toNat * 3)).off + 2, none⟩ = some (.slice A2 (rd_T70 xs i).f2.length c2) ∧ (rd_T70 xs i).f2.length ≤ c2 ∧ (Kd.int .u8).C w A2 (rd_T70 xs i).f2.length (rd_T70 xs i).f2 := by
 obtain ⟨ad, c, e, _, hK, hc0⟩ := Kd.C_get h z70 i h0 h1
 have hc : ∀ j u, c[j]? = some u → w.cell? (ad.add (i.toNat * 3 + j)) = some u := hc0
 obtain ⟨A2, c2, rfl, l2, g2⟩ := k70_open hK
 exact ⟨ad, A2, c2, e, hc 0 _ rfl, by rw [← add_field _ _ 1 (by omega)]; exact hc 1 _ rfl, by rw [← add_field _ _ 2 (by omega)]; exact hc 2 _ rfl, l2, g2⟩
def rd_L6 (xs : List (List S89)) (i : Int) : (List S89) := xs.getD i.toNat ([] : List S89)
def rd_L7 (xs : List (List Int)) (i : Int) : (List Int) := xs.getD i.toNat ([] : List Int)
/-! #### struct type 34 -/
structure S34 where
 f0 : Int
 f1 : Int
 f2 : (List Int)
 f3 : (List Int)
def z34 : S34 := ⟨(0 : Int), (0 : Int), ([] : List Int), ([] : List Int)⟩
def k34 : Kd S34 := Kd.iso (Kd.pair (Kd.int .i64) (Kd.pair (Kd.int .i64) (Kd.pair (Kd.slice 3 (Kd.int .i64)) (Kd.slice 3 (Kd.int .i64))))) (fun x : S34 => (x.f0, x.f1, x.f2, x.f3))
theorem k34_open {w : World} {x : S34} {cs : List Value} (h : k34.K w x cs) : ∃ A2 c2 A3 c3, cs = [.int .i64 x.f0, .int .i64 x.f1, .slice A2 x.f2.length c2, .slice A3 x.f3.length c3] ∧ x.f2.length ≤ c2 ∧ (Kd.int .i64).C w A2 x.f2.length x.f2 ∧ x.f3.length ≤ c3 ∧ (Kd.int .i64).C w A3 x.f3.length x.f3 := by
 obtain ⟨_, _, rfl, rfl, ⟨_, _, rfl, rfl, ⟨_, _, rfl, ⟨A2, c2, rfl, l2, g2⟩, ⟨A3, c3, rfl, l3, g3⟩⟩⟩⟩ := h
 exact ⟨A2, c2, A3, c3, rfl, l2, g2, l3, g3⟩
def rd_T34 (xs : List S34) (i : Int) : S34 := xs.getD i.toNat z34
def rd_L9 (xs : List (List S70)) (i : Int) : (List S70) := xs.getD i.toNat ([] : List S70)
/-! #### struct type 37 -/
structure S37 where
 f0 : ByteArray
 f1 : Int
 f2 : Int
 f3 : Int
 f4 : Int
 f5 : (List S89)
 f6 : S34
 f7 : (List S70)
def z37 : S37 := ⟨(⟨#[]⟩ : ByteArray), (0 : Int), (0 : Int), (0 : Int), (0 : Int), ([] : List S89), z34, ([] : List S70)⟩
def k37 : Kd S37 := Kd.iso (Kd.pair Kd.string (Kd.pair (Kd.int .i64) (Kd.pair (Kd.int .i64) (Kd.pair (Kd.int .i64) (Kd.pair (Kd.int .i64) (Kd.pair (Kd.slice 89 k89) (Kd.pair k34 (Kd.slice 70 k70)))))))) (fun x : S37 => (x.f0, x.f1, x.f2, x.f3, x.f4, x.f5, x.f6, x.f7))
theorem k37_open {w : World} {x : S37} {cs : List Value} (h : k37.K w x cs) : ∃ A5 c5 A8 c8 A9 c9 A10 c10, cs = [.string x.f0, .int .i64 x.f1, .int .i64 x.f2, .int .i64 x.f3, .int .i64 x.f4, .slice A5 x.f5.length c5, .int .i64 x.f6.f0, .int .i64 x.f6.f1, .slice A8 x.f6.f2.length c8, .slice A9 x.f6.f3.length c9, .slice A10 x.f7.length c10] ∧ x.f5.length ≤ c5 ∧ k89.C w A5 x.f5.length x.f5 ∧ x.f6.f2.length ≤ c8 ∧ (Kd.int .i64).C w A8 x.f6.f2.length x.f6.f2 ∧ x.f6.f3.length ≤ c9 ∧ (Kd.int .i64).C w A9 x.f6.f3.length x.f6.f3 ∧ x.f7.length ≤ c10 ∧ k70.C w A10 x.f7.length x.f7 := by
 obtain ⟨_, _, rfl, rfl, ⟨_, _, rfl, rfl, ⟨_, _, rfl, rfl, ⟨_, _, rfl, rfl, ⟨_, _, rfl, rfl, ⟨_, _, rfl, ⟨A5, c5, rfl, l5, g5⟩, ⟨_, _, rfl, s6, ⟨A10, c10, rfl, l10, g10⟩⟩⟩⟩⟩⟩⟩⟩ := h
 obtain ⟨A8, c8, A9, c9, rfl, l8, g8, l9, g9⟩ := k34_open s6
 exact ⟨A5, c5, A8, c8, A9, c9, A10, c10, rfl, l5, g5, l8, g8, l9, g9, l10, g10⟩
def rd_T37 (xs : List S37) (i : Int) : S37 := xs.getD i.toNat z37
theorem at_T37 {w : World} {A : Option Addr} {n : Nat} {xs : List S37} (h : Kd.C k37 w A n xs) (i : Int) (h0 : 0 ≤ i) (h1 : i < n) : ∃ ad A5 c5 A8 c8 A9 c9 A10 c10, A = some ad ∧ w.cell? (ad.add (i.toNat * 11)) = some (.string (rd_T37 xs i).f0) ∧ w.cell? ⟨(ad.add (i.toNat * 11)).block, (ad.add (i.toNat * 11)).off + 1, none⟩ = some (.int .i64 (rd_T37 xs i).f1) ∧ w.cell? ⟨(ad.add (i.toNat * 11)).block, (ad.add (i.toNat * 11)).off + 2, none⟩ = some (.int .i64 (rd_T37 xs i).f2) ∧ w.cell? ⟨(ad.add (i.toNat * 11)).block, (ad.add (i.toNat * 11)).off + 3, none⟩ = some (.int .i64 (rd_T37 xs i).f3) ∧ w.cell? ⟨(ad.add (i.toNat * 11)).block, (ad.add (i.toNat * 11)).off + 4, none⟩ = some (.int .i64 (rd_T37 xs i).f4) ∧ w.cell? ⟨(ad.add (i.toNat * 11)).block, (ad.add (i.toNat * 11)).off + 5, none⟩ = some (.slice A5 (rd_T37 xs i).f5.length c5) ∧ w.cell? ⟨(ad.add (i.toNat * 11)).block, (ad.add (i.toNat * 11)).off + 6, none⟩ = some (.int .i64 (rd_T37 xs i).f6.f0) ∧ w.cell? ⟨(ad.add (i.toNat * 11)).block, (ad.add (i.toNat * 11)).off + 7, none⟩ = some (.int .i64 (rd_T37 xs i).f6.f1) ∧ w.cell? ⟨(ad.add (i.toNat * 11)).block, (ad.add (i.toNat * 11)).off + 8, none⟩ = some (.slice A8 (rd_T37 xs i).f6.f2.length c8) ∧ w.cell? ⟨(ad.add (i.toNat * 11)).block, (ad.add (i.toNat * 11)).off + 9, none⟩ = some (.slice A9 (rd_T37 xs i).f6.f3.length c9) ∧ w.cell? ⟨(ad.add (i.toNat * 11)).block, (ad.add (i.toNat * 11)).off + 10, none⟩ = some (.slice A10 (rd_T37 xs i).f7.length c10) ∧ (rd_T37 xs i).f5.length ≤ c5 ∧ k89.C w A5 (rd_T37 xs i).f5.length (rd_T37 xs i).f5 ∧ (rd_T37 xs i).f6.f2.length ≤ c8 ∧ (Kd.int .i64).C w A8 (rd_T37 xs i).f6.f2.length (rd_T37 xs i).f6.f2 ∧ (rd_T37 xs i).f6.f3.length ≤ c9 ∧ (Kd.int .i64).C w A9 (rd_T37 xs i).f6.f3.length (rd_T37 xs i).f6.f3 ∧ (rd_T37 xs i).f7.length ≤ c10 ∧ k70.C w A10 (rd_T37 xs i).f7.length (rd_T37 xs i).f7 := by
 obtain ⟨ad, c, e, _, hK, hc0⟩ := Kd.C_get h z37 i h0 h1
 have hc : ∀ j u, c[j]? = some u → w.cell? (ad.add (i.toNat * 11 + j)) = some u := hc0
 obtain ⟨A5, c5, A8, c8, A9, c9, A10, c10, rfl, l5, g5, l8, g8, l9, g9, l10, g10⟩ := k37_open hK
 exact ⟨ad, A5, c5, A8, c8, A9, c9, A10, c10, e, hc 0 _ rfl, by rw [← add_field _ _ 1 (by omega)]; exact hc 1 _ rfl, by rw [← add_field _ _ 2 (by omega)]; exact hc 2 _ rfl, by rw [← add_field _ _ 3 (by omega)]; exact hc 3 _ rfl, by rw [← add_field _ _ 4 (by omega)]; exact hc 4 _ rfl, by rw [← add_field _ _ 5 (by omega)]; exact hc 5 _ rfl, by rw [← add_field _ _ 6 (by omega)]; exact hc 6 _ rfl, by rw [← add_field _ _ 7 (by omega)]; exact hc 7 _ rfl, by rw [← add_field _ _ 8 (by omega)]; exact hc 8 _ rfl, by rw [← add_field _ _ 9 (by omega)]; exact hc 9 _ rfl, by rw [← add_field _ _ 10 (by omega)]; exact hc 10 _ rfl, l5, g5, l8, g8, l9, g9, l10, g10⟩
def rd_L11 (xs : List (List S37)) (i : Int) : (List S37) := xs.getD i.toNat ([] : List S37)
/-! #### struct type 162 -/
structure S162 where
 f0 : Int
 f1 : (List S37)
def z162 : S162 := ⟨(0 : Int), ([] : List S37)⟩
def k162 : Kd S162 := Kd.iso (Kd.pair (Kd.int .i64) (Kd.slice 37 k37)) (fun x : S162 => (x.f0, x.f1))
theorem k162_open {w : World} {x : S162} {cs : List Value} (h : k162.K w x cs) : ∃ A1 c1, cs = [.int .i64 x.f0, .slice A1 x.f1.length c1] ∧ x.f1.length ≤ c1 ∧ k37.C w A1 x.f1.length x.f1 := by
 obtain ⟨_, _, rfl, rfl, ⟨A1, c1, rfl, l1, g1⟩⟩ := h
 exact ⟨A1, c1, rfl, l1, g1⟩
def rd_T162 (xs : List S162) (i : Int) : S162 := xs.getD i.toNat z162
theorem at_T162 {w : World} {A : Option Addr} {n : Nat} {xs : List S162} (h : Kd.C k162 w A n xs) (i : Int) (h0 : 0 ≤ i) (h1 : i < n) : ∃ ad A1 c1, A = some ad ∧ w.cell? (ad.add (i.toNat * 2)) = some (.int .i64 (rd_T162 xs i).f0) ∧ w.cell? ⟨(ad.add (i.toNat * 2)).block, (ad.add (i.toNat * 2)).off + 1, none⟩ = some (.slice A1 (rd_T162 xs i).f1.length c1) ∧ (rd_T162 xs i).f1.length ≤ c1 ∧ k37.C w A1 (rd_T162 xs i).f1.length (rd_T162 xs i).f1 := by
 obtain ⟨ad, c, e, _, hK, hc0⟩ := Kd.C_get h z162 i h0 h1
 have hc : ∀ j u, c[j]? = some u → w.cell? (ad.add (i.toNat * 2 + j)) = some u := hc0
 obtain ⟨A1, c1, rfl, l1, g1⟩ := k162_open hK
 exact ⟨ad, A1, c1, e, hc 0 _ rfl, by rw [← add_field _ _ 1 (by omega)]; exact hc 1 _ rfl, l1, g1⟩
/-! #### struct type 164 -/
structure S164 where
 f0 : (List Int)
 f1 : Int
 f2 : (List Int)
 f3 : Int
 f4 : Int
 f5 : Int
 f6 : Int
 f7 : Int
 f8 : (List Int)
def z164 : S164 := ⟨([] : List Int), (0 : Int), ([] : List Int), (0 : Int), (0 : Int), (0 : Int), (0 : Int), (0 : Int), ([] : List Int)⟩
def k164 : Kd S164 := Kd.iso (Kd.pair (Kd.slice 5 (Kd.int .u8)) (Kd.pair (Kd.int .i64) (Kd.pair (Kd.slice 3 (Kd.int .i64)) (Kd.pair (Kd.int .i64) (Kd.pair (Kd.int .i64) (Kd.pair (Kd.int .i64) (Kd.pair (Kd.int .i64) (Kd.pair (Kd.int .i64) (Kd.slice 5 (Kd.int .u8)))))))))) (fun x : S164 => (x.f0, x.f1, x.f2, x.f3, x.f4, x.f5, x.f6, x.f7, x.f8))
theorem k164_open {w : World} {x : S164} {cs : List Value} (h : k164.K w x cs) : ∃ A0 c0 A2 c2 A8 c8, cs = [.slice A0 x.f0.length c0, .int .i64 x.f1, .slice A2 x.f2.length c2, .int .i64 x.f3, .int .i64 x.f4, .int .i64 x.f5, .int .i64 x.f6, .int .i64 x.f7, .slice A8 x.f8.length c8] ∧ x.f0.length ≤ c0 ∧ (Kd.int .u8).C w A0 x.f0.length x.f0 ∧ x.f2.length ≤ c2 ∧ (Kd.int .i64).C w A2 x.f2.length x.f2 ∧ x.f8.length ≤ c8 ∧ (Kd.int .u8).C w A8 x.f8.length x.f8 := by
 obtain ⟨_, _, rfl, ⟨A0, c0, rfl, l0, g0⟩, ⟨_, _, rfl, rfl, ⟨_, _, rfl, ⟨A2, c2, rfl, l2, g2⟩, ⟨_, _, rfl, rfl, ⟨_, _, rfl, rfl, ⟨_, _, rfl, rfl, ⟨_, _, rfl, rfl, ⟨_, _, rfl, rfl, ⟨A8, c8, rfl, l8, g8⟩⟩⟩⟩⟩⟩⟩⟩⟩ := h
 exact ⟨A0, c0, A2, c2, A8, c8, rfl, l0, g0, l2, g2, l8, g8⟩
def rd_T164 (xs : List S164) (i : Int) : S164 := xs.getD i.toNat z164
theorem at_T164 {w : World} {A : Option Addr} {n : Nat} {xs : List S164} (h : Kd.C k164 w A n xs) (i : Int) (h0 : 0 ≤ i) (h1 : i < n) : ∃ ad A0 c0 A2 c2 A8 c8, A = some ad ∧ w.cell? (ad.add (i.toNat * 9)) = some (.slice A0 (rd_T164 xs i).f0.length c0) ∧ w.cell? ⟨(ad.add (i.toNat * 9)).block, (ad.add (i.toNat * 9)).off + 1, none⟩ = some (.int .i64 (rd_T164 xs i).f1) ∧ w.cell? ⟨(ad.add (i.toNat * 9)).block, (ad.add (i.toNat * 9)).off + 2, none⟩ = some (.slice A2 (rd_T164 xs i).f2.length c2) ∧ w.cell? ⟨(ad.add (i.toNat * 9)).block, (ad.add (i.toNat * 9)).off + 3, none⟩ = some (.int .i64 (rd_T164 xs i).f3) ∧ w.cell? ⟨(ad.add (i.toNat * 9)).block, (ad.add (i.toNat * 9)).off + 4, none⟩ = some (.int .i64 (rd_T164 xs i).f4) ∧ w.cell? ⟨(ad.add (i.toNat * 9)).block, (ad.add (i.toNat * 9)).off + 5, none⟩ = some (.int .i64 (rd_T164 xs i).f5) ∧ w.cell? ⟨(ad.add (i.toNat * 9)).block, (ad.add (i.toNat * 9)).off + 6, none⟩ = some (.int .i64 (rd_T164 xs i).f6) ∧ w.cell? ⟨(ad.add (i.toNat * 9)).block, (ad.add (i.toNat * 9)).off + 7, none⟩ = some (.int .i64 (rd_T164 xs i).f7) ∧ w.cell? ⟨(ad.add (i.toNat * 9)).block, (ad.add (i.toNat * 9)).off + 8, none⟩ = some (.slice A8 (rd_T164 xs i).f8.length c8) ∧ (rd_T164 xs i).f0.length ≤ c0 ∧ (Kd.int .u8).C w A0 (rd_T164 xs i).f0.length (rd_T164 xs i).f0 ∧ (rd_T164 xs i).f2.length ≤ c2 ∧ (Kd.int .i64).C w A2 (rd_T164 xs i).f2.length (rd_T164 xs i).f2 ∧ (rd_T164 xs i).f8.length ≤ c8 ∧ (Kd.int .u8).C w A8 (rd_T164 xs i).f8.length (rd_T164 xs i).f8 := by
 obtain ⟨ad, c, e, _, hK, hc0⟩ := Kd.C_get h z164 i h0 h1
 have hc : ∀ j u, c[j]? = some u → w.cell? (ad.add (i.toNat * 9 + j)) = some u := hc0
 obtain ⟨A0, c0, A2, c2, A8, c8, rfl, l0, g0, l2, g2, l8, g8⟩ := k164_open hK
 exact ⟨ad, A0, c0, A2, c2, A8, c8, e, hc 0 _ rfl, by rw [← add_field _ _ 1 (by omega)]; exact hc 1 _ rfl, by rw [← add_field _ _ 2 (by omega)]; exact hc 2 _ rfl, by rw [← add_field _ _ 3 (by omega)]; exact hc 3 _ rfl, by rw [← add_field _ _ 4 (by omega)]; exact hc 4 _ rfl, by rw [← add_field _ _ 5 (by omega)]; exact hc 5 _ rfl, by rw [← add_field _ _ 6 (by omega)]; exact hc 6 _ rfl, by rw [← add_field _ _ 7 (by omega)]; exact hc 7 _ rfl, by rw [← add_field _ _ 8 (by omega)]; exact hc 8 _ rfl, l0, g0, l2, g2, l8, g8⟩
/-! #### struct type 93 -/
structure S93 where
 f0 : ByteArray
 f1 : Int
 f2 : Int
def z93 : S93 := ⟨(⟨#[]⟩ : ByteArray), (0 : Int), (0 : Int)⟩
def k93 : Kd S93 := Kd.iso (Kd.pair Kd.string (Kd.pair (Kd.int .i64) (Kd.int .i64))) (fun x : S93 => (x.f0, x.f1, x.f2))
theorem k93_open {w : World} {x : S93} {cs : List Value} (h : k93.K w x cs) : cs = [.string x.f0, .int .i64 x.f1, .int .i64 x.f2] := by
 obtain ⟨_, _, rfl, rfl, ⟨_, _, rfl, rfl, rfl⟩⟩ := h
 exact rfl
theorem k93_openM {w : World} {base : Nat} {ok : Nat → Prop} {x : S93} {cs : List Value} (h : k93.M w base ok x cs) : cs = [.string x.f0, .int .i64 x.f1, .int .i64 x.f2] := by
 obtain ⟨_, _, rfl, rfl, ⟨_, _, rfl, rfl, rfl⟩⟩ := h
 exact rfl
theorem k93_mkM (w : World) (base : Nat) (ok : Nat → Prop) (x : S93)  : k93.M w base ok x [.string x.f0, .int .i64 x.f1, .int .i64 x.f2] := ⟨[.string x.f0], [.int .i64 x.f1, .int .i64 x.f2], rfl, rfl, ⟨[.int .i64 x.f1], [.int .i64 x.f2], rfl, rfl, rfl⟩⟩
def rd_T93 (xs : List S93) (i : Int) : S93 := xs.getD i.toNat z93
theorem at_T93 {w : World} {A : Option Addr} {n : Nat} {xs : List S93} (h : Kd.C k93 w A n xs) (i : Int) (h0 : 0 ≤ i) (h1 : i < n) : ∃ ad , A = some ad ∧ w.cell? (ad.add (i.toNat * 3)) = some (.string (rd_T93 xs i).f0) ∧ w.cell? ⟨(ad.add (i.toNat * 3)).block, (ad.add (i.toNat * 3)).off + 1, none⟩ = some (.int .i64 (rd_T93 xs i).f1) ∧ w.cell? ⟨(ad.add (i.toNat * 3)).block, (ad.add (i.toNat * 3)).off + 2, none⟩ = some (.int .i64 (rd_T93 xs i).f2) := by
 obtain ⟨ad, c, e, _, hK, hc0⟩ := Kd.C_get h z93 i h0 h1
 have hc : ∀ j u, c[j]? = some u → w.cell? (ad.add (i.toNat * 3 + j)) = some u := hc0
 obtain rfl := k93_open hK
 exact ⟨ad, e, hc 0 _ rfl, by rw [← add_field _ _ 1 (by omega)]; exact hc 1 _ rfl, by rw [← add_field _ _ 2 (by omega)]; exact hc 2 _ rfl⟩
/-! #### struct type 74 -/
structure S74 where
 f0 : ByteArray
 f1 : ByteArray
 f2 : (List Int)
def z74 : S74 := ⟨(⟨#[]⟩ : ByteArray), (⟨#[]⟩ : ByteArray), ([] : List Int)⟩
def k74 : Kd S74 := Kd.iso (Kd.pair Kd.string (Kd.pair Kd.string (Kd.slice 5 (Kd.int .u8)))) (fun x : S74 => (x.f0, x.f1, x.f2))
theorem k74_open {w : World} {x : S74} {cs : List Value} (h : k74.K w x cs) : ∃ A2 c2, cs = [.string x.f0, .string x.f1, .slice A2 x.f2.length c2] ∧ x.f2.length ≤ c2 ∧ (Kd.int .u8).C w A2 x.f2.length x.f2 := by
 obtain ⟨_, _, rfl, rfl, ⟨_, _, rfl, rfl, ⟨A2, c2, rfl, l2, g2⟩⟩⟩ := h
 exact ⟨A2, c2, rfl, l2, g2⟩
theorem k74_openM {w : World} {base : Nat} {ok : Nat → Prop} {x : S74} {cs : List Value} (h : k74.M w base ok x cs) : ∃ v2, cs = [.string x.f0, .string x.f1, v2] ∧ (Kd.int .u8).R 5 w base ok v2 x.f2 := by
 obtain ⟨_, _, rfl, rfl, ⟨_, _, rfl, rfl, ⟨v2, rfl, g2⟩⟩⟩ := h
 exact ⟨v2, rfl, g2⟩
theorem k74_mkM (w : World) (base : Nat) (ok : Nat → Prop) (x : S74) {v2 : Value} (g2 : (Kd.int .u8).R 5 w base ok v2 x.f2) : k74.M w base ok x [.string x.f0, .string x.f1, v2] := ⟨[.string x.f0], [.string x.f1, v2], rfl, rfl, ⟨[.string x.f1], [v2], rfl, rfl, ⟨v2, rfl, g2⟩⟩⟩
def rd_T74 (xs : List S74) (i : Int) : S74 := xs.getD i.toNat z74
theorem at_T74 {w : World} {A : Option Addr} {n : Nat} {xs : List S74} (h : Kd.C k74 w A n xs) (i : Int) (h0 : 0 ≤ i) (h1 : i < n) : ∃ ad A2 c2, A = some ad ∧ w.cell? (ad.add (i.toNat * 3)) = some (.string (rd_T74 xs i).f0) ∧ w.cell? ⟨(ad.add (i.toNat * 3)).block, (ad.add (i.toNat * 3)).off + 1, none⟩ = some (.string (rd_T74 xs i).f1) ∧ w.cell? ⟨(ad.add (i.toNat * 3)).block, (ad.add (i.toNat * 3)).off + 2, none⟩ = some (.slice A2 (rd_T74 xs i).f2.length c2) ∧ (rd_T74 xs i).f2.length ≤ c2 ∧ (Kd.int .u8).C w A2 (rd_T74 xs i).f2.length (rd_T74 xs i).f2 := by
 obtain ⟨ad, c, e, _, hK, hc0⟩ := Kd.C_get h z74 i h0 h1
 have hc : ∀ j u, c[j]? = some u → w.cell? (ad.add (i.toNat * 3 + j)) = some u := hc0
 obtain ⟨A2, c2, rfl, l2, g2⟩ := k74_open hK
 exact ⟨ad, A2, c2, e, hc 0 _ rfl, by rw [← add_field _ _ 1 (by omega)]; exact hc 1 _ rfl, by rw [← add_field _ _ 2 (by omega)]; exact hc 2 _ rfl, l2, g2⟩
def rd_L16 (xs : List (List S93)) (i : Int) : (List S93) := xs.getD i.toNat ([] : List S93)
/-! #### struct type 40 -/
structure S40 where
 f0 : Int
 f1 : Int
 f2 : (List Int)
 f3 : (List Int)
def z40 : S40 := ⟨(0 : Int), (0 : Int), ([] : List Int), ([] : List Int)⟩
def k40 : Kd S40 := Kd.iso (Kd.pair (Kd.int .i64) (Kd.pair (Kd.int .i64) (Kd.pair (Kd.slice 3 (Kd.int .i64)) (Kd.slice 3 (Kd.int .i64))))) (fun x : S40 => (x.f0, x.f1, x.f2, x.f3))
theorem k40_open {w : World} {x : S40} {cs : List Value} (h : k40.K w x cs) : ∃ A2 c2 A3 c3, cs = [.int .i64 x.f0, .int .i64 x.f1, .slice A2 x.f2.length c2, .slice A3 x.f3.length c3] ∧ x.f2.length ≤ c2 ∧ (Kd.int .i64).C w A2 x.f2.length x.f2 ∧ x.f3.length ≤ c3 ∧ (Kd.int .i64).C w A3 x.f3.length x.f3 := by
 obtain ⟨_, _, rfl, rfl, ⟨_, _, rfl, rfl, ⟨_, _, rfl, ⟨A2, c2, rfl, l2, g2⟩, ⟨A3, c3, rfl, l3, g3⟩⟩⟩⟩ := h
 exact ⟨A2, c2, A3, c3, rfl, l2, g2, l3, g3⟩
theorem k40_openM {w : World} {base : Nat} {ok : Nat → Prop} {x : S40} {cs : List Value} (h : k40.M w base ok x cs) : ∃ v2 v3, cs = [.int .i64 x.f0, .int .i64 x.f1, v2, v3] ∧ (Kd.int .i64).R 3 w base ok v2 x.f2 ∧ (Kd.int .i64).R 3 w base ok v3 x.f3 := by
 obtain ⟨_, _, rfl, rfl, ⟨_, _, rfl, rfl, ⟨_, _, rfl, ⟨v2, rfl, g2⟩, ⟨v3, rfl, g3⟩⟩⟩⟩ := h
 exact ⟨v2, v3, rfl, g2, g3⟩
theorem k40_mkM (w : World) (base : Nat) (ok : Nat → Prop) (x : S40) {v2 : Value} (g2 : (Kd.int .i64).R 3 w base ok v2 x.f2) {v3 : Value} (g3 : (Kd.int .i64).R 3 w base ok v3 x.f3) : k40.M w base ok x [.int .i64 x.f0, .int .i64 x.f1, v2, v3] := ⟨[.int .i64 x.f0], [.int .i64 x.f1, v2, v3], rfl, rfl, ⟨[.int .i64 x.f1], [v2, v3], rfl, rfl, ⟨[v2], [v3], rfl, ⟨v2, rfl, g2⟩, ⟨v3, rfl, g3⟩⟩⟩⟩
def rd_T40 (xs : List S40) (i : Int) : S40 := xs.getD i.toNat z40
def rd_L18 (xs : List (List S74)) (i : Int) : (List S74) := xs.getD i.toNat ([] : List S74)
/-! #### struct type 43 -/
structure S43 where
 f0 : ByteArray
 f1 : Int
 f2 : Int
 f3 : Int
 f4 : Int
 f5 : (List S93)
 f6 : S40
 f7 : (List S74)
def z43 : S43 := ⟨(⟨#[]⟩ : ByteArray), (0 : Int), (0 : Int), (0 : Int), (0 : Int), ([] : List S93), z40, ([] : List S74)⟩
def k43 : Kd S43 := Kd.iso (Kd.pair Kd.string (Kd.pair (Kd.int .i64) (Kd.pair (Kd.int .i64) (Kd.pair (Kd.int .i64) (Kd.pair (Kd.int .i64) (Kd.pair (Kd.slice 93 k93) (Kd.pair k40 (Kd.slice 74 k74)))))))) (fun x : S43 => (x.f0, x.f1, x.f2, x.f3, x.f4, x.f5, x.f6, x.f7))
theorem k43_open {w : World} {x : S43} {cs : List Value} (h : k43.K w x cs) : ∃ A5 c5 A8 c8 A9 c9 A10 c10, cs = [.string x.f0, .int .i64 x.f1, .int .i64 x.f2, .int .i64 x.f3, .int .i64 x.f4, .slice A5 x.f5.length c5, .int .i64 x.f6.f0, .int .i64 x.f6.f1, .slice A8 x.f6.f2.length c8, .slice A9 x.f6.f3.length c9, .slice A10 x.f7.length c10] ∧ x.f5.length ≤ c5 ∧ k93.C w A5 x.f5.length x.f5 ∧ x.f6.f2.length ≤ c8 ∧ (Kd.int .i64).C w A8 x.f6.f2.length x.f6.f2 ∧ x.f6.f3.length ≤ c9 ∧ (Kd.int .i64).C w A9 x.f6.f3.length x.f6.f3 ∧ x.f7.length ≤ c10 ∧ k74.C w A10 x.f7.length x.f7 := by
 obtain ⟨_, _, rfl, rfl, ⟨_, _, rfl, rfl, ⟨_, _, rfl, rfl, ⟨_, _, rfl, rfl, ⟨_, _, rfl, rfl, ⟨_, _, rfl, ⟨A5, c5, rfl, l5, g5⟩, ⟨_, _, rfl, s6, ⟨A10, c10, rfl, l10, g10⟩⟩⟩⟩⟩⟩⟩⟩ := h
 obtain ⟨A8, c8, A9, c9, rfl, l8, g8, l9, g9⟩ := k40_open s6
 exact ⟨A5, c5, A8, c8, A9, c9, A10, c10, rfl, l5, g5, l8, g8, l9, g9, l10, g10⟩
theorem k43_openM {w : World} {base : Nat} {ok : Nat → Prop} {x : S43} {cs : List Value} (h : k43.M w base ok x cs) : ∃ v5 v8 v9 v10, cs = [.string x.f0, .int .i64 x.f1, .int .i64 x.f2, .int .i64 x.f3, .int .i64 x.f4, v5, .int .i64 x.f6.f0, .int .i64 x.f6.f1, v8, v9, v10] ∧ k93.R 93 w base ok v5 x.f5 ∧ (Kd.int .i64).R 3 w base ok v8 x.f6.f2 ∧ (Kd.int .i64).R 3 w base ok v9 x.f6.f3 ∧ k74.R 74 w base ok v10 x.f7 := by
 obtain ⟨_, _, rfl, rfl, ⟨_, _, rfl, rfl, ⟨_, _, rfl, rfl, ⟨_, _, rfl, rfl, ⟨_, _, rfl, rfl, ⟨_, _, rfl, ⟨v5, rfl, g5⟩, ⟨_, _, rfl, s6, ⟨v10, rfl, g10⟩⟩⟩⟩⟩⟩⟩⟩ := h
 obtain ⟨v8, v9, rfl, g8, g9⟩ := k40_openM s6
 exact ⟨v5, v8, v9, v10, rfl, g5, g8, g9, g10⟩
theorem k43_mkM (w : World) (base : Nat) (ok : Nat → Prop) (x : S43) {v5 : Value} (g5 : k93.R 93 w base ok v5 x.f5) {v8 : Value} (g8 : (Kd.int .i64).R 3 w base ok v8 x.f6.f2) {v9 : Value} (g9 : (Kd.int .i64).R 3 w base ok v9 x.f6.f3) {v10 : Value} (g10 : k74.R 74 w base ok v10 x.f7) : k43.M w base ok x [.string x.f0, .int .i64 x.f1, .int .i64 x.f2, .int .i64 x.f3, .int .i64 x.f4, v5, .int .i64 x.f6.f0, .int .i64 x.f6.f1, v8, v9, v10] := ⟨[.string x.f0], [.int .i64 x.f1, .int .i64 x.f2, .int .i64 x.f3, .int .i64 x.f4, v5, .int .i64 x.f6.f0, .int .i64 x.f6.f1, v8, v9, v10], rfl, rfl, ⟨[.int .i64 x.f1], [.int .i64 x.f2, .int .i64 x.f3, .int .i64 x.f4, v5, .int .i64 x.f6.f0, .int .i64 x.f6.f1, v8, v9, v10], rfl, rfl, ⟨[.int .i64 x.f2], [.int .i64 x.f3, .int .i64 x.f4, v5, .int .i64 x.f6.f0, .int .i64 x.f6.f1, v8, v9, v10], rfl, rfl, ⟨[.int .i64 x.f3], [.int .i64 x.f4, v5, .int .i64 x.f6.f0, .int .i64 x.f6.f1, v8, v9, v10], rfl, rfl, ⟨[.int .i64 x.f4], [v5, .int .i64 x.f6.f0, .int .i64 x.f6.f1, v8, v9, v10], rfl, rfl, ⟨[v5], [.int .i64 x.f6.f0, .int .i64 x.f6.f1, v8, v9, v10], rfl, ⟨v5, rfl, g5⟩, ⟨[.int .i64 x.f6.f0, .int .i64 x.f6.f1, v8, v9], [v10], rfl, (k40_mkM w base ok x.f6 g8 g9), ⟨v10, rfl, g10⟩⟩⟩⟩⟩⟩⟩⟩
def rd_T43 (xs : List S43) (i : Int) : S43 := xs.getD i.toNat z43
theorem at_T43 {w : World} {A : Option Addr} {n : Nat} {xs : List S43} (h : Kd.C k43 w A n xs) (i : Int) (h0 : 0 ≤ i) (h1 : i < n) : ∃ ad A5 c5 A8 c8 A9 c9 A10 c10, A = some ad ∧ w.cell? (ad.add (i.toNat * 11)) = some (.string (rd_T43 xs i).f0) ∧ w.cell? ⟨(ad.add (i.toNat * 11)).block, (ad.add (i.toNat * 11)).off + 1, none⟩ = some (.int .i64 (rd_T43 xs i).f1) ∧ w.cell? ⟨(ad.add (i.toNat * 11)).block, (ad.add (i.toNat * 11)).off + 2, none⟩ = some (.int .i64 (rd_T43 xs i).f2) ∧ w.cell? ⟨(ad.add (i.toNat * 11)).block, (ad.add (i.toNat * 11)).off + 3, none⟩ = some (.int .i64 (rd_T43 xs i).f3) ∧ w.cell? ⟨(ad.add (i.toNat * 11)).block, (ad.add (i.toNat * 11)).off + 4, none⟩ = some (.int .i64 (rd_T43 xs i).f4) ∧ w.cell? ⟨(ad.add (i.toNat * 11)).block, (ad.add (i.toNat * 11)).off + 5, none⟩ = some (.slice A5 (rd_T43 xs i).f5.length c5) ∧ w.cell? ⟨(ad.add (i.toNat * 11)).block, (ad.add (i.toNat * 11)).off + 6, none⟩ = some (.int .i64 (rd_T43 xs i).f6.f0) ∧ w.cell? ⟨(ad.add (i.toNat * 11)).block, (ad.add (i.toNat * 11)).off + 7, none⟩ = some (.int .i64 (rd_T43 xs i).f6.f1) ∧ w.cell? ⟨(ad.add (i.toNat * 11)).block, (ad.add (i.toNat * 11)).off + 8, none⟩ = some (.slice A8 (rd_T43 xs i).f6.f2.length c8) ∧ w.cell? ⟨(ad.add (i.toNat * 11)).block, (ad.add (i.toNat * 11)).off + 9, none⟩ = some (.slice A9 (rd_T43 xs i).f6.f3.length c9) ∧ w.cell? ⟨(ad.add (i.toNat * 11)).block, (ad.add (i.toNat * 11)).off + 10, none⟩ = some (.slice A10 (rd_T43 xs i).f7.length c10) ∧ (rd_T43 xs i).f5.length ≤ c5 ∧ k93.C w A5 (rd_T43 xs i).f5.length (rd_T43 xs i).f5 ∧ (rd_T43 xs i).f6.f2.length ≤ c8 ∧ (Kd.int .i64).C w A8 (rd_T43 xs i).f6.f2.length (rd_T43 xs i).f6.f2 ∧ (rd_T43 xs i).f6.f3.length ≤ c9 ∧ (Kd.int .i64).C w A9 (rd_T43 xs i).f6.f3.length (rd_T43 xs i).f6.f3 ∧ (rd_T43 xs i).f7.length ≤ c10 ∧ k74.C w A10 (rd_T43 xs i).f7.length (rd_T43 xs i).f7 := by
 obtain ⟨ad, c, e, _, hK, hc0⟩ := Kd.C_get h z43 i h0 h1
 have hc : ∀ j u, c[j]? = some u → w.cell? (ad.add (i.toNat * 11 + j)) = some u := hc0
 obtain ⟨A5, c5, A8, c8, A9, c9, A10, c10, rfl, l5, g5, l8, g8, l9, g9, l10, g10⟩ := k43_open hK
 exact ⟨ad, A5, c5, A8, c8, A9, c9, A10, c10, e, hc 0 _ rfl, by rw [← add_field _ _ 1 (by omega)]; exact hc 1 _ rfl, by rw [← add_field _ _ 2 (by omega)]; exact hc 2 _ rfl, by rw [← add_field _ _ 3 (by omega)]; exact hc 3 _ rfl, by rw [← add_field _ _ 4 (by omega)]; exact hc 4 _ rfl, by rw [← add_field _ _ 5 (by omega)]; exact hc 5 _ rfl, by rw [← add_field _ _ 6 (by omega)]; exact hc 6 _ rfl, by rw [← add_field _ _ 7 (by omega)]; exact hc 7 _ rfl, by rw [← add_field _ _ 8 (by omega)]; exact hc 8 _ rfl, by rw [← add_field _ _ 9 (by omega)]; exact hc 9 _ rfl, by rw [← add_field _ _ 10 (by omega)]; exact hc 10 _ rfl, l5, g5, l8, g8, l9, g9, l10, g10⟩
def rd_L20 (xs : List (List S43)) (i : Int) : (List S43) := xs.getD i.toNat ([] : List S43)
/-! #### struct type 121 -/
structure S121 where
 f0 : Int
 f1 : (List S43)
def z121 : S121 := ⟨(0 : Int), ([] : List S43)⟩
def k121 : Kd S121 := Kd.iso (Kd.pair (Kd.int .i64) (Kd.slice 43 k43)) (fun x : S121 => (x.f0, x.f1))
theorem k121_open {w : World} {x : S121} {cs : List Value} (h : k121.K w x cs) : ∃ A1 c1, cs = [.int .i64 x.f0, .slice A1 x.f1.length c1] ∧ x.f1.length ≤ c1 ∧ k43.C w A1 x.f1.length x.f1 := by
 obtain ⟨_, _, rfl, rfl, ⟨A1, c1, rfl, l1, g1⟩⟩ := h
 exact ⟨A1, c1, rfl, l1, g1⟩
theorem k121_openM {w : World} {base : Nat} {ok : Nat → Prop} {x : S121} {cs : List Value} (h : k121.M w base ok x cs) : ∃ v1, cs = [.int .i64 x.f0, v1] ∧ k43.R 43 w base ok v1 x.f1 := by
 obtain ⟨_, _, rfl, rfl, ⟨v1, rfl, g1⟩⟩ := h
 exact ⟨v1, rfl, g1⟩
theorem k121_mkM (w : World) (base : Nat) (ok : Nat → Prop) (x : S121) {v1 : Value} (g1 : k43.R 43 w base ok v1 x.f1) : k121.M w base ok x [.int .i64 x.f0, v1] := ⟨[.int .i64 x.f0], [v1], rfl, rfl, ⟨v1, rfl, g1⟩⟩
def rd_T121 (xs : List S121) (i : Int) : S121 := xs.getD i.toNat z121
theorem at_T121 {w : World} {A : Option Addr} {n : Nat} {xs : List S121} (h : Kd.C k121 w A n xs) (i : Int) (h0 : 0 ≤ i) (h1 : i < n) : ∃ ad A1 c1, A = some ad ∧ w.cell? (ad.add (i.toNat * 2)) = some (.int .i64 (rd_T121 xs i).f0) ∧ w.cell? ⟨(ad.add (i.toNat * 2)).block, (ad.add (i.toNat * 2)).off + 1, none⟩ = some (.slice A1 (rd_T121 xs i).f1.length c1) ∧ (rd_T121 xs i).f1.length ≤ c1 ∧ k43.C w A1 (rd_T121 xs i).f1.length (rd_T121 xs i).f1 := by
 obtain ⟨ad, c, e, _, hK, hc0⟩ := Kd.C_get h z121 i h0 h1
 have hc : ∀ j u, c[j]? = some u → w.cell? (ad.add (i.toNat * 2 + j)) = some u := hc0
 obtain ⟨A1, c1, rfl, l1, g1⟩ := k121_open hK
 exact ⟨ad, A1, c1, e, hc 0 _ rfl, by rw [← add_field _ _ 1 (by omega)]; exact hc 1 _ rfl, l1, g1⟩
/-! #### struct type 126 -/
structure S126 where
 f0 : (List Int)
 f1 : Int
 f2 : (List Int)
 f3 : Int
 f4 : Int
 f5 : Int
 f6 : Int
 f7 : Int
 f8 : (List Int)
def z126 : S126 := ⟨([] : List Int), (0 : Int), ([] : List Int), (0 : Int), (0 : Int), (0 : Int), (0 : Int), (0 : Int), ([] : List Int)⟩
def k126 : Kd S126 := Kd.iso (Kd.pair (Kd.slice 5 (Kd.int .u8)) (Kd.pair (Kd.int .i64) (Kd.pair (Kd.slice 3 (Kd.int .i64)) (Kd.pair (Kd.int .i64) (Kd.pair (Kd.int .i64) (Kd.pair (Kd.int .i64) (Kd.pair (Kd.int .i64) (Kd.pair (Kd.int .i64) (Kd.slice 5 (Kd.int .u8)))))))))) (fun x : S126 => (x.f0, x.f1, x.f2, x.f3, x.f4, x.f5, x.f6, x.f7, x.f8))
theorem k126_open {w : World} {x : S126} {cs : List Value} (h : k126.K w x cs) : ∃ A0 c0 A2 c2 A8 c8, cs = [.slice A0 x.f0.length c0, .int .i64 x.f1, .slice A2 x.f2.length c2, .int .i64 x.f3, .int .i64 x.f4, .int .i64 x.f5, .int .i64 x.f6, .int .i64 x.f7, .slice A8 x.f8.length c8] ∧ x.f0.length ≤ c0 ∧ (Kd.int .u8).C w A0 x.f0.length x.f0 ∧ x.f2.length ≤ c2 ∧ (Kd.int .i64).C w A2 x.f2.length x.f2 ∧ x.f8.length ≤ c8 ∧ (Kd.int .u8).C w A8 x.f8.length x.f8 := by
 obtain ⟨_, _, rfl, ⟨A0, c0, rfl, l0, g0⟩, ⟨_, _, rfl, rfl, ⟨_, _, rfl, ⟨A2, c2, rfl, l2, g2⟩, ⟨_, _, rfl, rfl, ⟨_, _, rfl, rfl, ⟨_, _, rfl, rfl, ⟨_, _, rfl, rfl, ⟨_, _, rfl, rfl, ⟨A8, c8, rfl, l8, g8⟩⟩⟩⟩⟩⟩⟩⟩⟩ := h
 exact ⟨A0, c0, A2, c2, A8, c8, rfl, l0, g0, l2, g2, l8, g8⟩
theorem k126_openM {w : World} {base : Nat} {ok : Nat → Prop} {x : S126} {cs : List Value} (h : k126.M w base ok x cs) : ∃ v0 v2 v8, cs = [v0, .int .i64 x.f1, v2, .int .i64 x.f3, .int .i64 x.f4, .int .i64 x.f5, .int .i64 x.f6, .int .i64 x.f7, v8] ∧ (Kd.int .u8).R 5 w base ok v0 x.f0 ∧ (Kd.int .i64).R 3 w base ok v2 x.f2 ∧ (Kd.int .u8).R 5 w base ok v8 x.f8 := by
 obtain ⟨_, _, rfl, ⟨v0, rfl, g0⟩, ⟨_, _, rfl, rfl, ⟨_, _, rfl, ⟨v2, rfl, g2⟩, ⟨_, _, rfl, rfl, ⟨_, _, rfl, rfl, ⟨_, _, rfl, rfl, ⟨_, _, rfl, rfl, ⟨_, _, rfl, rfl, ⟨v8, rfl, g8⟩⟩⟩⟩⟩⟩⟩⟩⟩ := h
 exact ⟨v0, v2, v8, rfl, g0, g2, g8⟩
theorem k126_mkM (w : World) (base : Nat) (ok : Nat → Prop) (x : S126) {v0 : Value} (g0 : (Kd.int .u8).R 5 w base ok v0 x.f0) {v2 : Value} (g2 : (Kd.int .i64).R 3 w base ok v2 x.f2) {v8 : Value} (g8 : (Kd.int .u8).R 5 w base ok v8 x.f8) : k126.M w base ok x [v0, .int .i64 x.f1, v2, .int .i64 x.f3, .int .i64 x.f4, .int .i64 x.f5, .int .i64 x.f6, .int .i64 x.f7, v8] := ⟨[v0], [.int .i64 x.f1, v2, .int .i64 x.f3, .int .i64 x.f4, .int .i64 x.f5, .int .i64 x.f6, .int .i64 x.f7, v8], rfl, ⟨v0, rfl, g0⟩, ⟨[.int .i64 x.f1], [v2, .int .i64 x.f3, .int .i64 x.f4, .int .i64 x.f5, .int .i64 x.f6, .int .i64 x.f7, v8], rfl, rfl, ⟨[v2], [.int .i64 x.f3, .int .i64 x.f4, .int .i64 x.f5, .int .i64 x.f6, .int .i64 x.f7, v8], rfl, ⟨v2, rfl, g2⟩, ⟨[.int .i64 x.f3], [.int .i64 x.f4, .int .i64 x.f5, .int .i64 x.f6, .int .i64 x.f7, v8], rfl, rfl, ⟨[.int .i64 x.f4], [.int .i64 x.f5, .int .i64 x.f6, .int .i64 x.f7, v8], rfl, rfl, ⟨[.int .i64 x.f5], [.int .i64 x.f6, .int .i64 x.f7, v8], rfl, rfl, ⟨[.int .i64 x.f6], [.int .i64 x.f7, v8], rfl, rfl, ⟨[.int .i64 x.f7], [v8], rfl, rfl, ⟨v8, rfl, g8⟩⟩⟩⟩⟩⟩⟩⟩⟩
def rd_T126 (xs : List S126) (i : Int) : S126 := xs.getD i.toNat z126
theorem at_T126 {w : World} {A : Option Addr} {n : Nat} {xs : List S126} (h : Kd.C k126 w A n xs) (i : Int) (h0 : 0 ≤ i) (h1 : i < n) : ∃ ad A0 c0 A2 c2 A8 c8, A = some ad ∧ w.cell? (ad.add (i.toNat * 9)) = some (.slice A0 (rd_T126 xs i).f0.length c0) ∧ w.cell? ⟨(ad.add (i.toNat * 9)).block, (ad.add (i.toNat * 9)).off + 1, none⟩ = some (.int .i64 (rd_T126 xs i).f1) ∧ w.cell? ⟨(ad.add (i.toNat * 9)).block, (ad.add (i.toNat * 9)).off + 2, none⟩ = some (.slice A2 (rd_T126 xs i).f2.length c2) ∧ w.cell? ⟨(ad.add (i.toNat * 9)).block, (ad.add (i.toNat * 9)).off + 3, none⟩ = some (.int .i64 (rd_T126 xs i).f3) ∧ w.cell? ⟨(ad.add (i.toNat * 9)).block, (ad.add (i.toNat * 9)).off + 4, none⟩ = some (.int .i64 (rd_T126 xs i).f4) ∧ w.cell? ⟨(ad.add (i.toNat * 9)).block, (ad.add (i.toNat * 9)).off + 5, none⟩ = some (.int .i64 (rd_T126 xs i).f5) ∧ w.cell? ⟨(ad.add (i.toNat * 9)).block, (ad.add (i.toNat * 9)).off + 6, none⟩ = some (.int .i64 (rd_T126 xs i).f6) ∧ w.cell? ⟨(ad.add (i.toNat * 9)).block, (ad.add (i.toNat * 9)).off + 7, none⟩ = some (.int .i64 (rd_T126 xs i).f7) ∧ w.cell? ⟨(ad.add (i.toNat * 9)).block, (ad.add (i.toNat * 9)).off + 8, none⟩ = some (.slice A8 (rd_T126 xs i).f8.length c8) ∧ (rd_T126 xs i).f0.length ≤ c0 ∧ (Kd.int .u8).C w A0 (rd_T126 xs i).f0.length (rd_T126 xs i).f0 ∧ (rd_T126 xs i).f2.length ≤ c2 ∧ (Kd.int .i64).C w A2 (rd_T126 xs i).f2.length (rd_T126 xs i).f2 ∧ (rd_T126 xs i).f8.length ≤ c8 ∧ (Kd.int .u8).C w A8 (rd_T126 xs i).f8.length (rd_T126 xs i).f8 := by
 obtain ⟨ad, c, e, _, hK, hc0⟩ := Kd.C_get h z126 i h0 h1
 have hc : ∀ j u, c[j]? = some u → w.cell? (ad.add (i.toNat * 9 + j)) = some u := hc0
 obtain ⟨A0, c0, A2, c2, A8, c8, rfl, l0, g0, l2, g2, l8, g8⟩ := k126_open hK
 exact ⟨ad, A0, c0, A2, c2, A8, c8, e, hc 0 _ rfl, by rw [← add_field _ _ 1 (by omega)]; exact hc 1 _ rfl, by rw [← add_field _ _ 2 (by omega)]; exact hc 2 _ rfl, by rw [← add_field _ _ 3 (by omega)]; exact hc 3 _ rfl, by rw [← add_field _ _ 4 (by omega)]; exact hc 4 _ rfl, by rw [← add_field _ _ 5 (by omega)]; exact hc 5 _ rfl, by rw [← add_field _ _ 6 (by omega)]; exact hc 6 _ rfl, by rw [← add_field _ _ 7 (by omega)]; exact hc 7 _ rfl, by rw [← add_field _ _ 8 (by omega)]; exact hc 8 _ rfl, l0, g0, l2, g2, l8, g8⟩
def rd_L23 (xs : List (List S162)) (i : Int) : (List S162) := xs.getD i.toNat ([] : List S162)
def rd_L24 (xs : List (List S164)) (i : Int) : (List S164) := xs.getD i.toNat ([] : List S164)
/-! #### struct type 50 -/
structure S50 where
 f0 : (List S162)
 f1 : Int
 f2 : Int
 f3 : (List S164)
def z50 : S50 := ⟨([] : List S162), (0 : Int), (0 : Int), ([] : List S164)⟩
def k50 : Kd S50 := Kd.iso (Kd.pair (Kd.slice 162 k162) (Kd.pair (Kd.int .i64) (Kd.pair (Kd.int .i64) (Kd.slice 164 k164)))) (fun x : S50 => (x.f0, x.f1, x.f2, x.f3))
theorem k50_open {w : World} {x : S50} {cs : List Value} (h : k50.K w x cs) : ∃ A0 c0 A3 c3, cs = [.slice A0 x.f0.length c0, .int .i64 x.f1, .int .i64 x.f2, .slice A3 x.f3.length c3] ∧ x.f0.length ≤ c0 ∧ k162.C w A0 x.f0.length x.f0 ∧ x.f3.length ≤ c3 ∧ k164.C w A3 x.f3.length x.f3 := by
 obtain ⟨_, _, rfl, ⟨A0, c0, rfl, l0, g0⟩, ⟨_, _, rfl, rfl, ⟨_, _, rfl, rfl, ⟨A3, c3, rfl, l3, g3⟩⟩⟩⟩ := h
 exact ⟨A0, c0, A3, c3, rfl, l0, g0, l3, g3⟩
def rd_T50 (xs : List S50) (i : Int) : S50 := xs.getD i.toNat z50
def rd_L26 (xs : List (List S121)) (i : Int) : (List S121) := xs.getD i.toNat ([] : List S121)
def rd_L27 (xs : List (List S126)) (i : Int) : (List S126) := xs.getD i.toNat ([] : List S126)
/-! #### struct type 56 -/
structure S56 where
 f0 : (List S121)
 f1 : Int
 f2 : Int
 f3 : (List S126)
def z56 : S56 := ⟨([] : List S121), (0 : Int), (0 : Int), ([] : List S126)⟩
def k56 : Kd S56 := Kd.iso (Kd.pair (Kd.slice 121 k121) (Kd.pair (Kd.int .i64) (Kd.pair (Kd.int .i64) (Kd.slice 126 k126)))) (fun x : S56 => (x.f0, x.f1, x.f2, x.f3))
def rd_T56 (xs : List S56) (i : Int) : S56 := xs.getD i.toNat z56
theorem my_isEmpty (l : List UInt8) : l.isEmpty = !(l != []) := by cases l <;> simp
theorem my_w256 (x : Int) : wrap64 (x % 256) = x % 256 := by unfold wrap64; omega
theorem my_less (a b : List UInt8) : (Op.bytesLess a b || a == b) = !(Op.bytesLess b a) := by
 induction a generalizing b with
 | nil => cases b <;> simp [Op.bytesLess]
 | cons x a ih =>
  cases b with
  | nil => simp [Op.bytesLess]
  | cons y b =>
   have := ih b
   simp only [Op.bytesLess]
   by_cases h1 : x < y
   ·have h2 : ¬ y < x := UInt8.not_lt.2 (UInt8.le_of_lt h1)
    have h3 : ¬ x = y := fun e => UInt8.lt_irrefl _ (e ▸ h1)
    have h4 : ¬ y = x := fun e => h3 e.symm
    simp [h1, h2, h3, h4]
   ·by_cases h2 : y < x
    ·have h3 : ¬ x = y := fun e => UInt8.lt_irrefl _ (e ▸ h2)
     have h4 : ¬ y = x := fun e => h3 e.symm
     simp [h1, h2, h3, h4]
    ·have h3 : x = y := UInt8.le_antisymm (UInt8.not_lt.1 h2) (UInt8.not_lt.1 h1)
     subst h3
     simpa [h1] using this
theorem my_geq (t : TypeId) (a b : ByteArray) : binOp .geq t (.string a) (.string b) = pure (.bool !(Op.bytesLess a.toList b.toList)) := by simp [binOp, Op.stringOp]
theorem my_leq (t : TypeId) (a b : ByteArray) : binOp .leq t (.string a) (.string b) = pure (.bool !(Op.bytesLess b.toList a.toList)) := by rw [← my_less]; simp [binOp, Op.stringOp]
theorem my_gtr (t : TypeId) (a b : ByteArray) : binOp .gtr t (.string a) (.string b) = pure (.bool (Op.bytesLess b.toList a.toList)) := by
 have h := my_less a.toList b.toList
 have e : binOp .gtr t (.string a) (.string b) = pure (.bool !(Op.bytesLess a.toList b.toList || a.toList == b.toList)) := by simp [binOp, Op.stringOp]
 rw [e, h, Bool.not_not]
theorem bl_ {n : Nat} {w W : World} (h : Below n w W := by repeat (first | (with_reducible first | exact HB.out | apply below_alloc | apply pw_below_drewN | apply below_drew1 | refine below_set ?_ (Aside0.out (by assumption))) | exact HB.out)) : Below n w W := h
theorem sp_ {α : Type} {a b : α} (h : a = b := by first | rfl | (simp; done) | (simp [*]; done) | (simp [my_isEmpty, my_w256, Go.Proofs.YtepjnalkpfnmcaaW.PrintLast.i64_w, Go.Proofs.YtepjnalkpfnmcaaW.PrintLast.i32_w, Go.IntKind.wrap_u8, Go.IntKind.wrap_u32]; done)) : a = b := h
theorem bk_ {w W : World} {g : Nat} {o : Obj} (b : Aside0 (w.heap[g]? = some o)) (h : w.heap[g]? = some o → W.heap[g]? = some o := by intro h_; (with_reducible repeat (first | refine blk_drewN ?_ _ | refine blk_drew ?_ | refine blk_alloc ?_ _)); exact h_) : W.heap[g]? = some o := h b.out
theorem gl_ {P : Prop} (h : P := by (try simp only [List.map_toArray, List.map_cons, List.map_nil]); first | done | rfl | (simp only [List.length_drop, List.length_take]; rfl)) : P := h
theorem ca_ {P Q : Prop} (a : P) (h : P → Q := by intro h_; repeat (first | exact h_ | (with_reducible refine Kd.C_alloc ?_ _) | (with_reducible refine Kd.C_drewN ?_ _) | (with_reducible refine Kd.C_drew ?_))) : Q := h a
theorem ra_ {P Q : Prop} (a : Aside0 P) (h : P → Q := by intro h_; (with_reducible repeat (first | apply Kd.R_alloc | apply Kd.R_drewN | apply Kd.R_drew)); exact h_) : Q := h a.out
theorem cz_ {w : World} {g : Nat} {t : TypeId} {cs : Array Value} (b : Aside0 (w.heap[g]? = some (.cells cs t (0, 0)))) (i : Nat) (v : Value) (h : cs[i]? = some v := by rfl) : w.cell? ⟨g, i, none⟩ = some v := (blk_cell b.out i).trans h
theorem fz_ {w : World} {g : Nat} {t : TypeId} {cs : Array Value} (b : Aside0 (w.heap[g]? = some (.cells cs t (0, 0)))) (i : Nat) : w.frozen? ⟨g, i, none⟩ = false := blk_frozen b.out i
theorem od_ {p : Prop} [Decidable p] (h : decide p = true := by first | (with_reducible assumption) | assumption) : p := of_decide_eq_true h
theorem kc_ {w W : World} (b : Aside0 (Below w.heap.size w W)) {a : Addr} {v : Value} (h : w.cell? a = some v) : W.cell? a = some v := (b.out.cell (World.block_lt_of_cell? w _ h)).trans h
theorem cy_ {w : World} {g : Nat} {t : TypeId} {cs : Array Value} {v : Value} (b : Aside0 (w.heap[g]? = some (.cells cs t (0, 0)))) (i : Nat) (h : cs[i]? = some v := by rfl) : w.cell? ⟨g, i, none⟩ = some v := (blk_cell b.out i).trans h
theorem q_ : (∀ {α : Type} (l : List α) (i : Nat) (a : α), l.toArray.setIfInBounds i a = (l.set i a).toArray) ∧ (∀ {α : Type} (x : α) (l : List α) (a : α), (x :: l).set 0 a = a :: l) ∧ (∀ {α : Type} (x : α) (l : List α) (n : Nat) (a : α), (x :: l).set (n + 1) a = x :: l.set n a) ∧ (∀ n : Int, IntKind.i64.wrap n = wrap64 n) ∧ (∀ n : Int, IntKind.i32.wrap n = Go.RowKit.wrap32 n) := ⟨fun l i a => by simp, fun _ _ _ => rfl, fun _ _ _ _ => rfl, i64_w, i32_w⟩
theorem pl_ {P : Program} {ops : Array Oper} {Q : Exit → Act → World → Prop} {md : Region.Mode} {S : World → Prop} {ds : List Nat} {T} (HT : Aside0 (rtab md ops = T)) (i : Nat) (N : Tmp) (l' : Array Bool) {oi : Oper} {v : Value} {fuel : Nat} {l : Array Bool} {a : Act} {w : World} {a' : Act} (h : wpAnyLast P md ops Q S ds fuel l' a' w)
  (hi : ops[i]? = some oi := by rfl) (hN : oi.dst = some N := by rfl) (hc : anyT T l.toList l'.toList i = true := by kernel_rfl) (hQ : ∀ c a w, Q (.panic c) (a.put oi.dst v) w → Q (.panic c) a w := by exact fun _ _ _ h => h) (hwt : Region.wanted oi (yielded ops a.tmps) = true := by rfl)
  (hy : ∀ w, (execOp a.eval oi).run P w = .ok (.value v) w := by intro w'; go_simp; with_reducible rfl) (ha : a.put (some N) v = a' := by simp only [Act.put, q_]; rfl) : wpAnyLast P md ops Q S ds (fuel + 1) l a w := pure_ l' hi hN (any_of HT.out hc) hQ (Or.inl ⟨hwt, hy⟩) ha h
theorem pr_ {P : Program} {ops : Array Oper} {Q : Exit → Act → World → Prop} {md : Region.Mode} {S : World → Prop} {ds : List Nat} {T} (HT : Aside0 (rtab md ops = T)) (i : Nat) (N : Tmp) (l' : Array Bool) {oi : Oper} {fuel : Nat} {l : Array Bool} {a : Act} {w : World} {a' : Act} (h : wpAnyLast P md ops Q S ds fuel l' a' w)
  (hi : ops[i]? = some oi := by rfl) (hN : oi.dst = some N := by rfl) (hc : anyT T l.toList l'.toList i = true := by kernel_rfl) (hQ : ∀ c a w, Q (.panic c) (a.put oi.dst undef) w → Q (.panic c) a w := by exact fun _ _ _ h => h) (hwt : Region.wanted oi (yielded ops a.tmps) = false := by rfl)
  (ha : a.put (some N) undef = a' := by simp only [Act.put, q_]; rfl) : wpAnyLast P md ops Q S ds (fuel + 1) l a w := pure_ l' hi hN (any_of HT.out hc) hQ (Or.inr ⟨hwt, rfl⟩) ha h
theorem gw_ {w W : World} {g : Nat} (hg : g = W.heap.size) (h : Below w.heap.size w W := by repeat (first | (with_reducible first | exact HB.out | apply below_alloc | apply pw_below_drewN | apply below_drew1 | refine below_set ?_ (Aside0.out (by assumption))) | exact HB.out)) : Aside0 (w.heap.size ≤ g) := ⟨by rw [hg]; exact below_size h⟩
theorem sq_ {α : Type} {a b : α} (h : a = b := by first | rfl | (simp [errW_none, errW_some] <;> rfl) | (simp [*, errW_none, errW_some] <;> rfl)) : a = b := h
abbrev b0 : Bool := false
abbrev b1 : Bool := true
theorem ob_ {α β : Type} {x : Option α} {f : α → Option β} {r : β} (h : x.bind f = some r) : ∃ t, Aside0 (x = some t) ∧ f t = some r := by
  obtain ⟨t, a, b⟩ := Option.bind_eq_some_iff.mp h
  exact ⟨t, ⟨a⟩, b⟩
theorem ip_ {α : Type} {a b : Option α} {r : α} (h : (if true = true then a else b) = some r) : a = some r := by rwa [if_pos rfl] at h
theorem in_ {α : Type} {a b : Option α} {r : α} (h : (if false = true then a else b) = some r) : b = some r := by rwa [if_neg (show ¬ (false = true) by decide)] at h
theorem be_ {P : Program} {ops : Array Oper} {Q : Exit → Act → World → Prop} {rest : List Oper} {o : Oper} {a : Act} {W : World} {N : Tmp} {cs : Array Value} {t : TypeId}
    (h : ∀ g, g = W.heap.size → ∀ w1, w1.heap[g]? = some (.cells cs t (0, 0)) → Below W.heap.size W w1 → wpList P ops Q rest (a.put o.dst (.pointer (some ⟨g, 0, none⟩))) w1) (hgd : o.guard = none := by rfl) (hd : o.dst = some N := by rfl)
    (hrun : (execOp a.eval o).run P W = .ok (.value (.pointer (some ⟨W.heap.size, 0, none⟩))) (W.alloc (.cells cs t (0, 0))) := by first | (go_simp; done) | (go_simp; rfl)) : wpList P ops Q (o :: rest) a W := box_event hgd hd hrun h
theorem bx2_ {w : World} {g : Nat} {t : TypeId} {v0 v1 : Value} (b : Aside0 (w.heap[g]? = some (.cells #[v0, v1] t (0, 0)))) : w.cell? ⟨g, 0, none⟩ = some v0 ∧ w.cell? ⟨g, 1, none⟩ = some v1 ∧ w.frozen? ⟨g, 0, none⟩ = false ∧ w.frozen? ⟨g, 1, none⟩ = false := ⟨blk_cell b.out 0, blk_cell b.out 1, blk_frozen b.out 0, blk_frozen b.out 1⟩
theorem bx3_ {w : World} {g : Nat} {t : TypeId} {v0 v1 v2 : Value} (b : Aside0 (w.heap[g]? = some (.cells #[v0, v1, v2] t (0, 0)))) : w.cell? ⟨g, 0, none⟩ = some v0 ∧ w.cell? ⟨g, 1, none⟩ = some v1 ∧ w.cell? ⟨g, 2, none⟩ = some v2 ∧ w.frozen? ⟨g, 0, none⟩ = false ∧ w.frozen? ⟨g, 1, none⟩ = false ∧ w.frozen? ⟨g, 2, none⟩ = false := ⟨blk_cell b.out 0, blk_cell b.out 1, blk_cell b.out 2, blk_frozen b.out 0, blk_frozen b.out 1, blk_frozen b.out 2⟩
theorem bx4_ {w : World} {g : Nat} {t : TypeId} {v0 v1 v2 v3 : Value} (b : Aside0 (w.heap[g]? = some (.cells #[v0, v1, v2, v3] t (0, 0)))) : w.cell? ⟨g, 0, none⟩ = some v0 ∧ w.cell? ⟨g, 1, none⟩ = some v1 ∧ w.cell? ⟨g, 2, none⟩ = some v2 ∧ w.cell? ⟨g, 3, none⟩ = some v3 ∧ w.frozen? ⟨g, 0, none⟩ = false ∧ w.frozen? ⟨g, 1, none⟩ = false ∧ w.frozen? ⟨g, 2, none⟩ = false ∧ w.frozen? ⟨g, 3, none⟩ = false := ⟨blk_cell b.out 0, blk_cell b.out 1, blk_cell b.out 2, blk_cell b.out 3, blk_frozen b.out 0, blk_frozen b.out 1, blk_frozen b.out 2, blk_frozen b.out 3⟩
theorem bx9_ {w : World} {g : Nat} {t : TypeId} {v0 v1 v2 v3 v4 v5 v6 v7 v8 : Value} (b : Aside0 (w.heap[g]? = some (.cells #[v0, v1, v2, v3, v4, v5, v6, v7, v8] t (0, 0)))) : w.cell? ⟨g, 0, none⟩ = some v0 ∧ w.cell? ⟨g, 1, none⟩ = some v1 ∧ w.cell? ⟨g, 2, none⟩ = some v2 ∧ w.cell? ⟨g, 3, none⟩ = some v3 ∧ w.cell? ⟨g, 4, none⟩ = some v4 ∧ w.cell? ⟨g, 5, none⟩ = some v5 ∧ w.cell? ⟨g, 6, none⟩ = some v6 ∧ w.cell? ⟨g, 7, none⟩ = some v7 ∧ w.cell? ⟨g, 8, none⟩ = some v8 ∧ w.frozen? ⟨g, 0, none⟩ = false ∧ w.frozen? ⟨g, 1, none⟩ = false ∧ w.frozen? ⟨g, 2, none⟩ = false ∧ w.frozen? ⟨g, 3, none⟩ = false ∧ w.frozen? ⟨g, 4, none⟩ = false ∧ w.frozen? ⟨g, 5, none⟩ = false ∧ w.frozen? ⟨g, 6, none⟩ = false ∧ w.frozen? ⟨g, 7, none⟩ = false ∧ w.frozen? ⟨g, 8, none⟩ = false := ⟨blk_cell b.out 0, blk_cell b.out 1, blk_cell b.out 2, blk_cell b.out 3, blk_cell b.out 4, blk_cell b.out 5, blk_cell b.out 6, blk_cell b.out 7, blk_cell b.out 8, blk_frozen b.out 0, blk_frozen b.out 1, blk_frozen b.out 2, blk_frozen b.out 3, blk_frozen b.out 4, blk_frozen b.out 5, blk_frozen b.out 6, blk_frozen b.out 7, blk_frozen b.out 8⟩
theorem bx11_ {w : World} {g : Nat} {t : TypeId} {v0 v1 v2 v3 v4 v5 v6 v7 v8 v9 v10 : Value} (b : Aside0 (w.heap[g]? = some (.cells #[v0, v1, v2, v3, v4, v5, v6, v7, v8, v9, v10] t (0, 0)))) : w.cell? ⟨g, 0, none⟩ = some v0 ∧ w.cell? ⟨g, 1, none⟩ = some v1 ∧ w.cell? ⟨g, 2, none⟩ = some v2 ∧ w.cell? ⟨g, 3, none⟩ = some v3 ∧ w.cell? ⟨g, 4, none⟩ = some v4 ∧ w.cell? ⟨g, 5, none⟩ = some v5 ∧ w.cell? ⟨g, 6, none⟩ = some v6 ∧ w.cell? ⟨g, 7, none⟩ = some v7 ∧ w.cell? ⟨g, 8, none⟩ = some v8 ∧ w.cell? ⟨g, 9, none⟩ = some v9 ∧ w.cell? ⟨g, 10, none⟩ = some v10 ∧ w.frozen? ⟨g, 0, none⟩ = false ∧ w.frozen? ⟨g, 1, none⟩ = false ∧ w.frozen? ⟨g, 2, none⟩ = false ∧ w.frozen? ⟨g, 3, none⟩ = false ∧ w.frozen? ⟨g, 4, none⟩ = false ∧ w.frozen? ⟨g, 5, none⟩ = false ∧ w.frozen? ⟨g, 6, none⟩ = false ∧ w.frozen? ⟨g, 7, none⟩ = false ∧ w.frozen? ⟨g, 8, none⟩ = false ∧ w.frozen? ⟨g, 9, none⟩ = false ∧ w.frozen? ⟨g, 10, none⟩ = false := ⟨blk_cell b.out 0, blk_cell b.out 1, blk_cell b.out 2, blk_cell b.out 3, blk_cell b.out 4, blk_cell b.out 5, blk_cell b.out 6, blk_cell b.out 7, blk_cell b.out 8, blk_cell b.out 9, blk_cell b.out 10, blk_frozen b.out 0, blk_frozen b.out 1, blk_frozen b.out 2, blk_frozen b.out 3, blk_frozen b.out 4, blk_frozen b.out 5, blk_frozen b.out 6, blk_frozen b.out 7, blk_frozen b.out 8, blk_frozen b.out 9, blk_frozen b.out 10⟩
theorem bp2_0_ {w : World} {g : Nat} {t : TypeId} {z0 z1 u : Value} (h : w.heap[g]? = some (.cells #[z0, z1] t (0, 0))) : (w.setCell ⟨g, 0, none⟩ u).heap[g]? = some (.cells #[u, z1] t (0, 0)) := blk_put h 0 u rfl
theorem bp2_1_ {w : World} {g : Nat} {t : TypeId} {z0 z1 u : Value} (h : w.heap[g]? = some (.cells #[z0, z1] t (0, 0))) : (w.setCell ⟨g, 1, none⟩ u).heap[g]? = some (.cells #[z0, u] t (0, 0)) := blk_put h 1 u rfl
theorem bp3_0_ {w : World} {g : Nat} {t : TypeId} {z0 z1 z2 u : Value} (h : w.heap[g]? = some (.cells #[z0, z1, z2] t (0, 0))) : (w.setCell ⟨g, 0, none⟩ u).heap[g]? = some (.cells #[u, z1, z2] t (0, 0)) := blk_put h 0 u rfl
theorem bp3_1_ {w : World} {g : Nat} {t : TypeId} {z0 z1 z2 u : Value} (h : w.heap[g]? = some (.cells #[z0, z1, z2] t (0, 0))) : (w.setCell ⟨g, 1, none⟩ u).heap[g]? = some (.cells #[z0, u, z2] t (0, 0)) := blk_put h 1 u rfl
theorem bp3_2_ {w : World} {g : Nat} {t : TypeId} {z0 z1 z2 u : Value} (h : w.heap[g]? = some (.cells #[z0, z1, z2] t (0, 0))) : (w.setCell ⟨g, 2, none⟩ u).heap[g]? = some (.cells #[z0, z1, u] t (0, 0)) := blk_put h 2 u rfl
theorem bp4_0_ {w : World} {g : Nat} {t : TypeId} {z0 z1 z2 z3 u : Value} (h : w.heap[g]? = some (.cells #[z0, z1, z2, z3] t (0, 0))) : (w.setCell ⟨g, 0, none⟩ u).heap[g]? = some (.cells #[u, z1, z2, z3] t (0, 0)) := blk_put h 0 u rfl
theorem bp4_1_ {w : World} {g : Nat} {t : TypeId} {z0 z1 z2 z3 u : Value} (h : w.heap[g]? = some (.cells #[z0, z1, z2, z3] t (0, 0))) : (w.setCell ⟨g, 1, none⟩ u).heap[g]? = some (.cells #[z0, u, z2, z3] t (0, 0)) := blk_put h 1 u rfl
theorem bp4_2_ {w : World} {g : Nat} {t : TypeId} {z0 z1 z2 z3 u : Value} (h : w.heap[g]? = some (.cells #[z0, z1, z2, z3] t (0, 0))) : (w.setCell ⟨g, 2, none⟩ u).heap[g]? = some (.cells #[z0, z1, u, z3] t (0, 0)) := blk_put h 2 u rfl
theorem bp4_3_ {w : World} {g : Nat} {t : TypeId} {z0 z1 z2 z3 u : Value} (h : w.heap[g]? = some (.cells #[z0, z1, z2, z3] t (0, 0))) : (w.setCell ⟨g, 3, none⟩ u).heap[g]? = some (.cells #[z0, z1, z2, u] t (0, 0)) := blk_put h 3 u rfl
theorem bp9_0_ {w : World} {g : Nat} {t : TypeId} {z0 z1 z2 z3 z4 z5 z6 z7 z8 u : Value} (h : w.heap[g]? = some (.cells #[z0, z1, z2, z3, z4, z5, z6, z7, z8] t (0, 0))) : (w.setCell ⟨g, 0, none⟩ u).heap[g]? = some (.cells #[u, z1, z2, z3, z4, z5, z6, z7, z8] t (0, 0)) := blk_put h 0 u rfl
theorem bp9_1_ {w : World} {g : Nat} {t : TypeId} {z0 z1 z2 z3 z4 z5 z6 z7 z8 u : Value} (h : w.heap[g]? = some (.cells #[z0, z1, z2, z3, z4, z5, z6, z7, z8] t (0, 0))) : (w.setCell ⟨g, 1, none⟩ u).heap[g]? = some (.cells #[z0, u, z2, z3, z4, z5, z6, z7, z8] t (0, 0)) := blk_put h 1 u rfl
theorem bp9_2_ {w : World} {g : Nat} {t : TypeId} {z0 z1 z2 z3 z4 z5 z6 z7 z8 u : Value} (h : w.heap[g]? = some (.cells #[z0, z1, z2, z3, z4, z5, z6, z7, z8] t (0, 0))) : (w.setCell ⟨g, 2, none⟩ u).heap[g]? = some (.cells #[z0, z1, u, z3, z4, z5, z6, z7, z8] t (0, 0)) := blk_put h 2 u rfl
theorem bp9_3_ {w : World} {g : Nat} {t : TypeId} {z0 z1 z2 z3 z4 z5 z6 z7 z8 u : Value} (h : w.heap[g]? = some (.cells #[z0, z1, z2, z3, z4, z5, z6, z7, z8] t (0, 0))) : (w.setCell ⟨g, 3, none⟩ u).heap[g]? = some (.cells #[z0, z1, z2, u, z4, z5, z6, z7, z8] t (0, 0)) := blk_put h 3 u rfl
theorem bp9_4_ {w : World} {g : Nat} {t : TypeId} {z0 z1 z2 z3 z4 z5 z6 z7 z8 u : Value} (h : w.heap[g]? = some (.cells #[z0, z1, z2, z3, z4, z5, z6, z7, z8] t (0, 0))) : (w.setCell ⟨g, 4, none⟩ u).heap[g]? = some (.cells #[z0, z1, z2, z3, u, z5, z6, z7, z8] t (0, 0)) := blk_put h 4 u rfl
theorem bp9_5_ {w : World} {g : Nat} {t : TypeId} {z0 z1 z2 z3 z4 z5 z6 z7 z8 u : Value} (h : w.heap[g]? = some (.cells #[z0, z1, z2, z3, z4, z5, z6, z7, z8] t (0, 0))) : (w.setCell ⟨g, 5, none⟩ u).heap[g]? = some (.cells #[z0, z1, z2, z3, z4, u, z6, z7, z8] t (0, 0)) := blk_put h 5 u rfl
theorem bp9_6_ {w : World} {g : Nat} {t : TypeId} {z0 z1 z2 z3 z4 z5 z6 z7 z8 u : Value} (h : w.heap[g]? = some (.cells #[z0, z1, z2, z3, z4, z5, z6, z7, z8] t (0, 0))) : (w.setCell ⟨g, 6, none⟩ u).heap[g]? = some (.cells #[z0, z1, z2, z3, z4, z5, u, z7, z8] t (0, 0)) := blk_put h 6 u rfl
theorem bp9_7_ {w : World} {g : Nat} {t : TypeId} {z0 z1 z2 z3 z4 z5 z6 z7 z8 u : Value} (h : w.heap[g]? = some (.cells #[z0, z1, z2, z3, z4, z5, z6, z7, z8] t (0, 0))) : (w.setCell ⟨g, 7, none⟩ u).heap[g]? = some (.cells #[z0, z1, z2, z3, z4, z5, z6, u, z8] t (0, 0)) := blk_put h 7 u rfl
theorem bp9_8_ {w : World} {g : Nat} {t : TypeId} {z0 z1 z2 z3 z4 z5 z6 z7 z8 u : Value} (h : w.heap[g]? = some (.cells #[z0, z1, z2, z3, z4, z5, z6, z7, z8] t (0, 0))) : (w.setCell ⟨g, 8, none⟩ u).heap[g]? = some (.cells #[z0, z1, z2, z3, z4, z5, z6, z7, u] t (0, 0)) := blk_put h 8 u rfl
theorem bp11_0_ {w : World} {g : Nat} {t : TypeId} {z0 z1 z2 z3 z4 z5 z6 z7 z8 z9 z10 u : Value} (h : w.heap[g]? = some (.cells #[z0, z1, z2, z3, z4, z5, z6, z7, z8, z9, z10] t (0, 0))) : (w.setCell ⟨g, 0, none⟩ u).heap[g]? = some (.cells #[u, z1, z2, z3, z4, z5, z6, z7, z8, z9, z10] t (0, 0)) := blk_put h 0 u rfl
theorem bp11_1_ {w : World} {g : Nat} {t : TypeId} {z0 z1 z2 z3 z4 z5 z6 z7 z8 z9 z10 u : Value} (h : w.heap[g]? = some (.cells #[z0, z1, z2, z3, z4, z5, z6, z7, z8, z9, z10] t (0, 0))) : (w.setCell ⟨g, 1, none⟩ u).heap[g]? = some (.cells #[z0, u, z2, z3, z4, z5, z6, z7, z8, z9, z10] t (0, 0)) := blk_put h 1 u rfl
theorem bp11_2_ {w : World} {g : Nat} {t : TypeId} {z0 z1 z2 z3 z4 z5 z6 z7 z8 z9 z10 u : Value} (h : w.heap[g]? = some (.cells #[z0, z1, z2, z3, z4, z5, z6, z7, z8, z9, z10] t (0, 0))) : (w.setCell ⟨g, 2, none⟩ u).heap[g]? = some (.cells #[z0, z1, u, z3, z4, z5, z6, z7, z8, z9, z10] t (0, 0)) := blk_put h 2 u rfl
theorem bp11_3_ {w : World} {g : Nat} {t : TypeId} {z0 z1 z2 z3 z4 z5 z6 z7 z8 z9 z10 u : Value} (h : w.heap[g]? = some (.cells #[z0, z1, z2, z3, z4, z5, z6, z7, z8, z9, z10] t (0, 0))) : (w.setCell ⟨g, 3, none⟩ u).heap[g]? = some (.cells #[z0, z1, z2, u, z4, z5, z6, z7, z8, z9, z10] t (0, 0)) := blk_put h 3 u rfl
theorem bp11_4_ {w : World} {g : Nat} {t : TypeId} {z0 z1 z2 z3 z4 z5 z6 z7 z8 z9 z10 u : Value} (h : w.heap[g]? = some (.cells #[z0, z1, z2, z3, z4, z5, z6, z7, z8, z9, z10] t (0, 0))) : (w.setCell ⟨g, 4, none⟩ u).heap[g]? = some (.cells #[z0, z1, z2, z3, u, z5, z6, z7, z8, z9, z10] t (0, 0)) := blk_put h 4 u rfl
theorem bp11_5_ {w : World} {g : Nat} {t : TypeId} {z0 z1 z2 z3 z4 z5 z6 z7 z8 z9 z10 u : Value} (h : w.heap[g]? = some (.cells #[z0, z1, z2, z3, z4, z5, z6, z7, z8, z9, z10] t (0, 0))) : (w.setCell ⟨g, 5, none⟩ u).heap[g]? = some (.cells #[z0, z1, z2, z3, z4, u, z6, z7, z8, z9, z10] t (0, 0)) := blk_put h 5 u rfl
theorem bp11_6_ {w : World} {g : Nat} {t : TypeId} {z0 z1 z2 z3 z4 z5 z6 z7 z8 z9 z10 u : Value} (h : w.heap[g]? = some (.cells #[z0, z1, z2, z3, z4, z5, z6, z7, z8, z9, z10] t (0, 0))) : (w.setCell ⟨g, 6, none⟩ u).heap[g]? = some (.cells #[z0, z1, z2, z3, z4, z5, u, z7, z8, z9, z10] t (0, 0)) := blk_put h 6 u rfl
theorem bp11_7_ {w : World} {g : Nat} {t : TypeId} {z0 z1 z2 z3 z4 z5 z6 z7 z8 z9 z10 u : Value} (h : w.heap[g]? = some (.cells #[z0, z1, z2, z3, z4, z5, z6, z7, z8, z9, z10] t (0, 0))) : (w.setCell ⟨g, 7, none⟩ u).heap[g]? = some (.cells #[z0, z1, z2, z3, z4, z5, z6, u, z8, z9, z10] t (0, 0)) := blk_put h 7 u rfl
theorem bp11_8_ {w : World} {g : Nat} {t : TypeId} {z0 z1 z2 z3 z4 z5 z6 z7 z8 z9 z10 u : Value} (h : w.heap[g]? = some (.cells #[z0, z1, z2, z3, z4, z5, z6, z7, z8, z9, z10] t (0, 0))) : (w.setCell ⟨g, 8, none⟩ u).heap[g]? = some (.cells #[z0, z1, z2, z3, z4, z5, z6, z7, u, z9, z10] t (0, 0)) := blk_put h 8 u rfl
theorem bp11_9_ {w : World} {g : Nat} {t : TypeId} {z0 z1 z2 z3 z4 z5 z6 z7 z8 z9 z10 u : Value} (h : w.heap[g]? = some (.cells #[z0, z1, z2, z3, z4, z5, z6, z7, z8, z9, z10] t (0, 0))) : (w.setCell ⟨g, 9, none⟩ u).heap[g]? = some (.cells #[z0, z1, z2, z3, z4, z5, z6, z7, z8, u, z10] t (0, 0)) := blk_put h 9 u rfl
theorem bp11_10_ {w : World} {g : Nat} {t : TypeId} {z0 z1 z2 z3 z4 z5 z6 z7 z8 z9 z10 u : Value} (h : w.heap[g]? = some (.cells #[z0, z1, z2, z3, z4, z5, z6, z7, z8, z9, z10] t (0, 0))) : (w.setCell ⟨g, 10, none⟩ u).heap[g]? = some (.cells #[z0, z1, z2, z3, z4, z5, z6, z7, z8, z9, u] t (0, 0)) := blk_put h 10 u rfl
theorem bq2_0_ {w : World} {g : Nat} {t : TypeId} {z0 z1 u0 : Value} (h : w.heap[g]? = some (.cells #[z0, z1] t (0, 0))) : (w.setCell ⟨g, 0, none⟩ u0).heap[g]? = some (.cells #[u0, z1] t (0, 0)) := by
  have h0 := bp2_0_ (u := u0) h
  exact h0
theorem bq2_1_0_ {w : World} {g : Nat} {t : TypeId} {z0 z1 u0 u1 : Value} (h : w.heap[g]? = some (.cells #[z0, z1] t (0, 0))) : ((w.setCell ⟨g, 0, none⟩ u1).setCell ⟨g, 1, none⟩ u0).heap[g]? = some (.cells #[u1, u0] t (0, 0)) := by
  have h0 := bp2_0_ (u := u1) h; have h1 := bp2_1_ (u := u0) h0
  exact h1
theorem bq3_1_0_ {w : World} {g : Nat} {t : TypeId} {z0 z1 z2 u0 u1 : Value} (h : w.heap[g]? = some (.cells #[z0, z1, z2] t (0, 0))) : ((w.setCell ⟨g, 0, none⟩ u1).setCell ⟨g, 1, none⟩ u0).heap[g]? = some (.cells #[u1, u0, z2] t (0, 0)) := by
  have h0 := bp3_0_ (u := u1) h; have h1 := bp3_1_ (u := u0) h0
  exact h1
theorem bq3_2_1_0_ {w : World} {g : Nat} {t : TypeId} {z0 z1 z2 u0 u1 u2 : Value} (h : w.heap[g]? = some (.cells #[z0, z1, z2] t (0, 0))) : (((w.setCell ⟨g, 0, none⟩ u2).setCell ⟨g, 1, none⟩ u1).setCell ⟨g, 2, none⟩ u0).heap[g]? = some (.cells #[u2, u1, u0] t (0, 0)) := by
  have h0 := bp3_0_ (u := u2) h; have h1 := bp3_1_ (u := u1) h0; have h2 := bp3_2_ (u := u0) h1
  exact h2
theorem bq4_1_0_ {w : World} {g : Nat} {t : TypeId} {z0 z1 z2 z3 u0 u1 : Value} (h : w.heap[g]? = some (.cells #[z0, z1, z2, z3] t (0, 0))) : ((w.setCell ⟨g, 0, none⟩ u1).setCell ⟨g, 1, none⟩ u0).heap[g]? = some (.cells #[u1, u0, z2, z3] t (0, 0)) := by
  have h0 := bp4_0_ (u := u1) h; have h1 := bp4_1_ (u := u0) h0
  exact h1
theorem bq4_2_ {w : World} {g : Nat} {t : TypeId} {z0 z1 z2 z3 u0 : Value} (h : w.heap[g]? = some (.cells #[z0, z1, z2, z3] t (0, 0))) : (w.setCell ⟨g, 2, none⟩ u0).heap[g]? = some (.cells #[z0, z1, u0, z3] t (0, 0)) := by
  have h0 := bp4_2_ (u := u0) h
  exact h0
theorem bq4_2_1_0_ {w : World} {g : Nat} {t : TypeId} {z0 z1 z2 z3 u0 u1 u2 : Value} (h : w.heap[g]? = some (.cells #[z0, z1, z2, z3] t (0, 0))) : (((w.setCell ⟨g, 0, none⟩ u2).setCell ⟨g, 1, none⟩ u1).setCell ⟨g, 2, none⟩ u0).heap[g]? = some (.cells #[u2, u1, u0, z3] t (0, 0)) := by
  have h0 := bp4_0_ (u := u2) h; have h1 := bp4_1_ (u := u1) h0; have h2 := bp4_2_ (u := u0) h1
  exact h2
theorem bq4_3_2_1_0_ {w : World} {g : Nat} {t : TypeId} {z0 z1 z2 z3 u0 u1 u2 u3 : Value} (h : w.heap[g]? = some (.cells #[z0, z1, z2, z3] t (0, 0))) : ((((w.setCell ⟨g, 0, none⟩ u3).setCell ⟨g, 1, none⟩ u2).setCell ⟨g, 2, none⟩ u1).setCell ⟨g, 3, none⟩ u0).heap[g]? = some (.cells #[u3, u2, u1, u0] t (0, 0)) := by
  have h0 := bp4_0_ (u := u3) h; have h1 := bp4_1_ (u := u2) h0; have h2 := bp4_2_ (u := u1) h1; have h3 := bp4_3_ (u := u0) h2
  exact h3
theorem bq9_1_0_ {w : World} {g : Nat} {t : TypeId} {z0 z1 z2 z3 z4 z5 z6 z7 z8 u0 u1 : Value} (h : w.heap[g]? = some (.cells #[z0, z1, z2, z3, z4, z5, z6, z7, z8] t (0, 0))) : ((w.setCell ⟨g, 0, none⟩ u1).setCell ⟨g, 1, none⟩ u0).heap[g]? = some (.cells #[u1, u0, z2, z3, z4, z5, z6, z7, z8] t (0, 0)) := by
  have h0 := bp9_0_ (u := u1) h; have h1 := bp9_1_ (u := u0) h0
  exact h1
theorem bq9_7_6_5_4_3_2_ {w : World} {g : Nat} {t : TypeId} {z0 z1 z2 z3 z4 z5 z6 z7 z8 u0 u1 u2 u3 u4 u5 : Value} (h : w.heap[g]? = some (.cells #[z0, z1, z2, z3, z4, z5, z6, z7, z8] t (0, 0))) : ((((((w.setCell ⟨g, 2, none⟩ u5).setCell ⟨g, 3, none⟩ u4).setCell ⟨g, 4, none⟩ u3).setCell ⟨g, 5, none⟩ u2).setCell ⟨g, 6, none⟩ u1).setCell ⟨g, 7, none⟩ u0).heap[g]? = some (.cells #[z0, z1, u5, u4, u3, u2, u1, u0, z8] t (0, 0)) := by
  have h0 := bp9_2_ (u := u5) h; have h1 := bp9_3_ (u := u4) h0; have h2 := bp9_4_ (u := u3) h1; have h3 := bp9_5_ (u := u2) h2; have h4 := bp9_6_ (u := u1) h3; have h5 := bp9_7_ (u := u0) h4
  exact h5
theorem bq9_8_7_6_5_4_3_2_1_0_ {w : World} {g : Nat} {t : TypeId} {z0 z1 z2 z3 z4 z5 z6 z7 z8 u0 u1 u2 u3 u4 u5 u6 u7 u8 : Value} (h : w.heap[g]? = some (.cells #[z0, z1, z2, z3, z4, z5, z6, z7, z8] t (0, 0))) : (((((((((w.setCell ⟨g, 0, none⟩ u8).setCell ⟨g, 1, none⟩ u7).setCell ⟨g, 2, none⟩ u6).setCell ⟨g, 3, none⟩ u5).setCell ⟨g, 4, none⟩ u4).setCell ⟨g, 5, none⟩ u3).setCell ⟨g, 6, none⟩ u2).setCell ⟨g, 7, none⟩ u1).setCell ⟨g, 8, none⟩ u0).heap[g]? = some (.cells #[u8, u7, u6, u5, u4, u3, u2, u1, u0] t (0, 0)) := by
  have h0 := bp9_0_ (u := u8) h; have h1 := bp9_1_ (u := u7) h0; have h2 := bp9_2_ (u := u6) h1; have h3 := bp9_3_ (u := u5) h2; have h4 := bp9_4_ (u := u4) h3; have h5 := bp9_5_ (u := u3) h4; have h6 := bp9_6_ (u := u2) h5; have h7 := bp9_7_ (u := u1) h6; have h8 := bp9_8_ (u := u0) h7
  exact h8
theorem bq11_4_3_2_1_0_ {w : World} {g : Nat} {t : TypeId} {z0 z1 z2 z3 z4 z5 z6 z7 z8 z9 z10 u0 u1 u2 u3 u4 : Value} (h : w.heap[g]? = some (.cells #[z0, z1, z2, z3, z4, z5, z6, z7, z8, z9, z10] t (0, 0))) : (((((w.setCell ⟨g, 0, none⟩ u4).setCell ⟨g, 1, none⟩ u3).setCell ⟨g, 2, none⟩ u2).setCell ⟨g, 3, none⟩ u1).setCell ⟨g, 4, none⟩ u0).heap[g]? = some (.cells #[u4, u3, u2, u1, u0, z5, z6, z7, z8, z9, z10] t (0, 0)) := by
  have h0 := bp11_0_ (u := u4) h; have h1 := bp11_1_ (u := u3) h0; have h2 := bp11_2_ (u := u2) h1; have h3 := bp11_3_ (u := u1) h2; have h4 := bp11_4_ (u := u0) h3
  exact h4
theorem bq11_5_ {w : World} {g : Nat} {t : TypeId} {z0 z1 z2 z3 z4 z5 z6 z7 z8 z9 z10 u0 : Value} (h : w.heap[g]? = some (.cells #[z0, z1, z2, z3, z4, z5, z6, z7, z8, z9, z10] t (0, 0))) : (w.setCell ⟨g, 5, none⟩ u0).heap[g]? = some (.cells #[z0, z1, z2, z3, z4, u0, z6, z7, z8, z9, z10] t (0, 0)) := by
  have h0 := bp11_5_ (u := u0) h
  exact h0
theorem bq11_9_8_7_6_ {w : World} {g : Nat} {t : TypeId} {z0 z1 z2 z3 z4 z5 z6 z7 z8 z9 z10 u0 u1 u2 u3 : Value} (h : w.heap[g]? = some (.cells #[z0, z1, z2, z3, z4, z5, z6, z7, z8, z9, z10] t (0, 0))) : ((((w.setCell ⟨g, 6, none⟩ u3).setCell ⟨g, 7, none⟩ u2).setCell ⟨g, 8, none⟩ u1).setCell ⟨g, 9, none⟩ u0).heap[g]? = some (.cells #[z0, z1, z2, z3, z4, z5, u3, u2, u1, u0, z10] t (0, 0)) := by
  have h0 := bp11_6_ (u := u3) h; have h1 := bp11_7_ (u := u2) h0; have h2 := bp11_8_ (u := u1) h1; have h3 := bp11_9_ (u := u0) h2
  exact h3
theorem bq11_10_9_8_7_6_5_4_3_2_1_0_ {w : World} {g : Nat} {t : TypeId} {z0 z1 z2 z3 z4 z5 z6 z7 z8 z9 z10 u0 u1 u2 u3 u4 u5 u6 u7 u8 u9 u10 : Value} (h : w.heap[g]? = some (.cells #[z0, z1, z2, z3, z4, z5, z6, z7, z8, z9, z10] t (0, 0))) : (((((((((((w.setCell ⟨g, 0, none⟩ u10).setCell ⟨g, 1, none⟩ u9).setCell ⟨g, 2, none⟩ u8).setCell ⟨g, 3, none⟩ u7).setCell ⟨g, 4, none⟩ u6).setCell ⟨g, 5, none⟩ u5).setCell ⟨g, 6, none⟩ u4).setCell ⟨g, 7, none⟩ u3).setCell ⟨g, 8, none⟩ u2).setCell ⟨g, 9, none⟩ u1).setCell ⟨g, 10, none⟩ u0).heap[g]? = some (.cells #[u10, u9, u8, u7, u6, u5, u4, u3, u2, u1, u0] t (0, 0)) := by
  have h0 := bp11_0_ (u := u10) h; have h1 := bp11_1_ (u := u9) h0; have h2 := bp11_2_ (u := u8) h1; have h3 := bp11_3_ (u := u7) h2; have h4 := bp11_4_ (u := u6) h3; have h5 := bp11_5_ (u := u5) h4; have h6 := bp11_6_ (u := u4) h5; have h7 := bp11_7_ (u := u3) h6; have h8 := bp11_8_ (u := u2) h7; have h9 := bp11_9_ (u := u1) h8; have h10 := bp11_10_ (u := u0) h9
  exact h10
end Go.Proofs.Ytepjnalkpfnmcaa.QFnExactInOrder
